import PyProof.Rows.All
import Wide.All
import OpenK.AllK
import Wide.FinOn
import HandS.ForMost
import HandS.IsInst
import HandS.Flow
import HandS.Deep
import HandS.TupAny
import HandS.Wide
import HandS.SortInts
import HandS.More
import HandS.Style
import KE.GoesMore
import HandS.Zip
import HandS.Steps
import HandS.WordsExc
import HandS.Defaults
import HandS.Head0
import HandS.Head1
import HandS.Head2
import HandS.HeadEnd
import HandS.HeadHook1
import HandS.HeadHook2
import HandS.HeadHook4
import PySem.Challenge.RW_runstead_k25_layouts
set_option Elab.async false
set_option linter.all false
set_option maxRecDepth 100000
namespace Mp
open PySem L2

/-! ### data by value; hd n: the n-th mutable object of the store -/
inductive D where
  | non | bl (b : Bool) | int (i : Int) | str (x : Str)
  | tup (xs : List D) | lst (xs : List D) | dk (kvs : List (Key × D))
  | hd (n : Nat) | scr (ns : List Int)

inductive Ob where
  | lst (xs : List D)
  | dk (kvs : List (Key × D))
  | dt (kvs : List (List Key × D))
  | ins (C : Nat) (fs : List (Str × D))

abbrev Sto := List Ob
abbrev Sl := List (Option D)

def keyOf : D → Option Key
  | .int i => some (.inl i)
  | .str x => some (.inr x)
  | _ => none
def keysOf : List D → Option (List Key)
  | [] => some []
  | d :: ds => match keyOf d, keysOf ds with
    | some k, some ks => some (k :: ks)
    | _, _ => none
/-- tuples that may stand in the written part: no keys of dicts -/
def ktup : List Key → Bool
  | [] => true
  | .inr _ :: _ => true
  | _ => false
/-- the written part, and where the program's classes stand -/
structure Cn where
  K : PySem.W.Frag
  ca : Nat → Addr
  /-- objects that are being made: no value is told by them -/
  hid : List Addr

def Scr (K : PySem.W.Frag) (H : Hp) (a : Addr) (ns : List Int) : Prop :=
  (∃ o, H a = some (.frz o (.lst (ns.map V.int)))) ∨
    ∃ (o : Obj) (its : Array Value) (n : Nat), K.lookup a = some o ∧ o.cls = .type "list" ∧ o.dict = none ∧ o.data = .seq its n ∧ its.size ≤ sizeLine ∧ Vals (ns.map V.int) its.toList

def KTup (K : PySem.W.Frag) (a : Addr) (vs : List V) : Prop :=
  ∃ (o : Obj) (its : Array Value) (n : Nat), K.lookup a = some o ∧ o.cls = .type "tuple" ∧ o.data = .seq its n ∧ its.size ≤ sizeLine ∧ Vals vs its.toList
def TupAt (K : PySem.W.Frag) (H : Hp) (a : Addr) (xs : List D) (vs : List V) : Prop :=
  H a = some (.tup vs) ∨ (KTup K a vs ∧ ∀ ks, keysOf xs = some ks → ktup ks = true)
theorem TupAt.sqT {K : PySem.W.Frag} {H : Hp} {a : Addr} {xs : List D} {vs : List V} (h : TupAt K H a xs vs) : SqT K H a vs := by
  rcases h with h | ⟨h, _⟩
  · exact .inl (.inl h)
  · exact .inr h
mutual
inductive RelD (c : Cn) (μ : List Addr) (H : Hp) : D → V → Prop
  | non : RelD c μ H .non .non
  | bl (b : Bool) : RelD c μ H (.bl b) (.bl b)
  | int (i : Int) : RelD c μ H (.int i) (.int i)
  | str (x : Str) : RelD c μ H (.str x) (.str x)
  | tup {a : Addr} {xs : List D} {vs : List V} : TupAt c.K H a xs vs → RelDs c μ H xs vs → RelD c μ H (.tup xs) (.ref a)
  | lst {a : Addr} {xs : List D} {vs : List V} : H a = some (.lst vs) → a ∉ μ → a ∉ c.hid → RelDs c μ H xs vs → RelD c μ H (.lst xs) (.ref a)
  | dk {a : Addr} {kvs : List (Key × D)} {vs : List (Key × V)} : H a = some (.dK vs) → a ∉ μ → a ∉ c.hid → RelKs c μ H kvs vs → RelD c μ H (.dk kvs) (.ref a)
  | hd {n : Nat} {a : Addr} : μ[n]? = some a → RelD c μ H (.hd n) (.ref a)
  | scr {a : Addr} {ns : List Int} : Scr c.K H a ns → RelD c μ H (.scr ns) (.ref a)
inductive RelDs (c : Cn) (μ : List Addr) (H : Hp) : List D → List V → Prop
  | nil : RelDs c μ H [] []
  | cons {d : D} {v : V} {ds : List D} {vs : List V} : RelD c μ H d v → RelDs c μ H ds vs → RelDs c μ H (d :: ds) (v :: vs)
inductive RelKs (c : Cn) (μ : List Addr) (H : Hp) : List (Key × D) → List (Key × V) → Prop
  | nil : RelKs c μ H [] []
  | cons {k : Key} {d : D} {v : V} {ds : List (Key × D)} {vs : List (Key × V)} : RelD c μ H d v → RelKs c μ H ds vs → RelKs c μ H ((k, d) :: ds) ((k, v) :: vs)
end

/-- what stands at a handle -/
def RelO (c : Cn) (μ : List Addr) (H : Hp) : Ob → HO → Prop
  | .lst xs, ho => ∃ vs, ho = .lst vs ∧ RelDs c μ H xs vs
  | .dk kvs, ho => ∃ vs, ho = .dK vs ∧ RelKs c μ H kvs vs
  | .dt kvs, ho => ∃ vs, ho = .dT vs ∧ Paired (fun (p : List Key × D) (q : List Key × V) => p.1 = q.1 ∧ RelD c μ H p.2 q.2) kvs vs
  | .ins C fs, ho => ∃ dx vs, ho = .ins (c.ca C) dx vs ∧ Paired (fun (p : Str × D) (q : Str × V) => p.1 = q.1 ∧ RelD c μ H p.2 q.2) fs vs

structure RelS (c : Cn) (μ : List Addr) (S : Sto) (H : Hp) : Prop where
  len : μ.length = S.length
  nd : μ.Nodup
  hh : ∀ a, a ∈ c.hid → a ∉ μ ∧ ∃ o, H a = some o
  at_ : ∀ (n : Nat) (o : Ob), S[n]? = some o → ∃ a ho, μ[n]? = some a ∧ H a = some ho ∧ RelO c μ H o ho

def RelSl (c : Cn) (μ : List Addr) (H : Hp) (σd : Sl) (σ : St) : Prop :=
  σd.length = σ.length ∧ ∀ (i : Nat) (d : D), σd[i]? = some (some d) → ∃ v, σ[i]? = some (some v) ∧ RelD c μ H d v

/-- objects that are not at handles stand still; new handles were free -/
structure Step (μ : List Addr) (H : Hp) (μ' : List Addr) (H' : Hp) : Prop where
  pre : μ <+: μ'
  keep : ∀ a o, a ∉ μ → H a = some o → H' a = some o
  new : ∀ a, a ∈ μ' → a ∉ μ → H a = none

theorem Step.refl (μ : List Addr) (H : Hp) : Step μ H μ H := ⟨List.prefix_refl μ, fun _ _ _ h => h, fun _ h n => absurd h n⟩
theorem Step.trans {μ μ1 μ2 : List Addr} {H H1 H2 : Hp} (a : Step μ H μ1 H1) (b : Step μ1 H1 μ2 H2) : Step μ H μ2 H2 := by
  refine ⟨a.pre.trans b.pre, fun x o n h => ?_, fun x h n => ?_⟩
  · refine b.keep x o (fun hx => ?_) (a.keep x o n h)
    rw [a.new x hx n] at h
    cases h
  · by_cases hx : x ∈ μ1
    · exact a.new x hx n
    · have h1 := b.new x h hx
      cases e : H x with
      | none => rfl
      | some o =>
        rw [a.keep x o n e] at h1
        cases h1

theorem get_pre {μ μ' : List Addr} (p : μ <+: μ') {n : Nat} {a : Addr} (h : μ[n]? = some a) : μ'[n]? = some a := by
  obtain ⟨t, rfl⟩ := p
  rw [List.getElem?_append_left (List.getElem?_eq_some_iff.mp h).1]
  exact h

section
variable {c : Cn} {μ μ' : List Addr} {S S' : Sto} {H H' : Hp}

theorem RelS.kind (r : RelS c μ S H) {a : Addr} (h : a ∈ μ) : ∃ (n : Nat) (o : Ob) (ho : HO), μ[n]? = some a ∧ S[n]? = some o ∧ H a = some ho ∧ RelO c μ H o ho := by
  obtain ⟨n, hn⟩ := List.mem_iff_getElem?.mp h
  have hl : n < S.length := by rw [← r.len]; exact (List.getElem?_eq_some_iff.mp hn).1
  obtain ⟨a', ho, h1, h2, h3⟩ := r.at_ n S[n] (List.getElem?_eq_getElem hl)
  rw [hn] at h1
  cases h1
  exact ⟨n, S[n], ho, hn, List.getElem?_eq_getElem hl, h2, h3⟩
theorem RelS.notTup (r : RelS c μ S H) {a : Addr} {xs : List V} (h : H a = some (.tup xs)) : a ∉ μ := fun hm => by
  obtain ⟨n, o, ho, _, _, h2, h3⟩ := r.kind hm
  rw [h] at h2
  cases h2
  cases o with
  | lst => obtain ⟨_, e, _⟩ := h3; cases e
  | dk => obtain ⟨_, e, _⟩ := h3; cases e
  | dt => obtain ⟨_, e, _⟩ := h3; cases e
  | ins => obtain ⟨_, _, e, _⟩ := h3; cases e
theorem RelS.notFrz (r : RelS c μ S H) {a : Addr} {o : Obj} {u : HO} (h : H a = some (.frz o u)) : a ∉ μ := fun hm => by
  obtain ⟨n, o, ho, _, _, h2, h3⟩ := r.kind hm
  rw [h] at h2
  cases h2
  cases o with
  | lst => obtain ⟨_, e, _⟩ := h3; cases e
  | dk => obtain ⟨_, e, _⟩ := h3; cases e
  | dt => obtain ⟨_, e, _⟩ := h3; cases e
  | ins => obtain ⟨_, _, e, _⟩ := h3; cases e
theorem Step.tupAt (st : Step μ H μ' H') (r : RelS c μ S H) {K : PySem.W.Frag} {a : Addr} {xs : List D} {vs : List V} (h : TupAt K H a xs vs) : TupAt K H' a xs vs := by
  rcases h with h | h
  · exact .inl (st.keep _ _ (r.notTup h) h)
  · exact .inr h
theorem Step.scr (st : Step μ H μ' H') (r : RelS c μ S H) {K : PySem.W.Frag} {a : Addr} {ns : List Int} (h : Scr K H a ns) : Scr K H' a ns := by
  rcases h with ⟨o, h⟩ | h
  · exact .inl ⟨o, st.keep _ _ (r.notFrz h) h⟩
  · exact .inr h
theorem Step.out (st : Step μ H μ' H') {a : Addr} {o : HO} (h : H a = some o) (n : a ∉ μ) : a ∉ μ' := fun hm => by
  rw [st.new a hm n] at h
  cases h

mutual
theorem RelD.mono (r : RelS c μ S H) (st : Step μ H μ' H') : ∀ {d : D} {v : V}, RelD c μ H d v → RelD c μ' H' d v
  | _, _, .non => .non
  | _, _, .bl b => .bl b
  | _, _, .int i => .int i
  | _, _, .str x => .str x
  | _, _, .tup h rs => .tup (st.tupAt r h) (RelDs.mono r st rs)
  | _, _, .lst h n hh rs => .lst (st.keep _ _ n h) (st.out h n) hh (RelDs.mono r st rs)
  | _, _, .dk h n hh rs => .dk (st.keep _ _ n h) (st.out h n) hh (RelKs.mono r st rs)
  | _, _, .hd h => .hd (get_pre st.pre h)
  | _, _, .scr h => .scr (st.scr r h)
theorem RelDs.mono (r : RelS c μ S H) (st : Step μ H μ' H') : ∀ {ds : List D} {vs : List V}, RelDs c μ H ds vs → RelDs c μ' H' ds vs
  | _, _, .nil => .nil
  | _, _, .cons h t => .cons (RelD.mono r st h) (RelDs.mono r st t)
theorem RelKs.mono (r : RelS c μ S H) (st : Step μ H μ' H') : ∀ {ds : List (Key × D)} {vs : List (Key × V)}, RelKs c μ H ds vs → RelKs c μ' H' ds vs
  | _, _, .nil => .nil
  | _, _, .cons h t => .cons (RelD.mono r st h) (RelKs.mono r st t)
end
theorem RelO.mono (r : RelS c μ S H) (st : Step μ H μ' H') {o : Ob} {ho : HO} (h : RelO c μ H o ho) : RelO c μ' H' o ho := by
  cases o with
  | lst xs => obtain ⟨vs, e, q⟩ := h; exact ⟨vs, e, q.mono r st⟩
  | dk xs => obtain ⟨vs, e, q⟩ := h; exact ⟨vs, e, q.mono r st⟩
  | dt xs => obtain ⟨vs, e, q⟩ := h; exact ⟨vs, e, Paired.mapP q fun _ _ z => ⟨z.1, z.2.mono r st⟩⟩
  | ins C fs => obtain ⟨dx, vs, e, q⟩ := h; exact ⟨dx, vs, e, Paired.mapP q fun _ _ z => ⟨z.1, z.2.mono r st⟩⟩
theorem RelSl.mono (r : RelS c μ S H) (st : Step μ H μ' H') {σd : Sl} {σ : St} (h : RelSl c μ H σd σ) : RelSl c μ' H' σd σ :=
  ⟨h.1, fun i d e => let ⟨v, e', q⟩ := h.2 i d e; ⟨v, e', q.mono r st⟩⟩

/-- a new untracked object -/
theorem RelS.add (r : RelS c μ S H) {p : Addr} {ho : HO} (hp : H p = none) : Step μ H μ (upd H p ho) ∧ RelS c μ S (upd H p ho) := by
  have st : Step μ H μ (upd H p ho) := ⟨List.prefix_refl μ, fun a o _ h => by rw [upd_ne (ne_of_none h hp)]; exact h, fun a h n => absurd h n⟩
  refine ⟨st, r.len, r.nd, fun a ha => let ⟨h1, o, h2⟩ := r.hh a ha; ⟨h1, o, st.keep a o h1 h2⟩, fun n o e => ?_⟩
  obtain ⟨a, ho', h1, h2, h3⟩ := r.at_ n o e
  exact ⟨a, ho', h1, by rw [upd_ne (ne_of_none h2 hp)]; exact h2, h3.mono r st⟩
theorem RelS.fresh (r : RelS c μ S H) {p : Addr} (hp : H p = none) : p ∉ μ := fun hm => by
  obtain ⟨_, _, _, _, _, h2, _⟩ := r.kind hm
  rw [hp] at h2
  cases h2
/-- a new handle -/
theorem RelS.push (r : RelS c μ S H) {p : Addr} {o : Ob} {ho : HO} (hp : H p = none) (q : RelO c μ H o ho) :
    Step μ H (μ ++ [p]) (upd H p ho) ∧ RelS c (μ ++ [p]) (S ++ [o]) (upd H p ho) := by
  have st : Step μ H (μ ++ [p]) (upd H p ho) := ⟨List.prefix_append μ [p], fun a o _ h => by rw [upd_ne (ne_of_none h hp)]; exact h, fun a h n => by
    rcases List.mem_append.mp h with h | h
    · exact absurd h n
    · rw [List.mem_singleton.mp h]; exact hp⟩
  refine ⟨st, by simp [r.len], ?_, fun a ha => let ⟨h1, o, h2⟩ := r.hh a ha; ⟨st.out h2 h1, o, st.keep a o h1 h2⟩, fun n o' e => ?_⟩
  · refine List.nodup_append.mpr ⟨r.nd, by simp, fun a ha b hb => ?_⟩
    rw [List.mem_singleton.mp hb]
    intro e
    rw [e] at ha
    exact r.fresh hp ha
  · by_cases hn : n < S.length
    · rw [List.getElem?_append_left hn] at e
      obtain ⟨a, ho', h1, h2, h3⟩ := r.at_ n o' e
      exact ⟨a, ho', get_pre st.pre h1, by rw [upd_ne (ne_of_none h2 hp)]; exact h2, h3.mono r st⟩
    · have hn' : S.length ≤ n := Nat.le_of_not_lt hn
      rw [List.getElem?_append_right hn'] at e
      have e0 : n - S.length = 0 := by
        rcases h : n - S.length with _ | k
        · rfl
        · rw [h] at e; simp at e
      rw [e0] at e
      simp only [List.getElem?_cons_zero, Option.some.injEq] at e
      subst e
      have en : n = μ.length := by have := r.len; omega
      subst en
      exact ⟨p, ho, by simp, upd_same, q.mono r st⟩
/-- the object at a handle is changed -/
theorem RelS.set (r : RelS c μ S H) {n : Nat} {a : Addr} {o : Ob} {ho : HO} (hm : μ[n]? = some a) (q : RelO c μ H o ho) :
    Step μ H μ (upd H a ho) ∧ RelS c μ (S.set n o) (upd H a ho) := by
  have ha : a ∈ μ := List.mem_iff_getElem?.mpr ⟨n, hm⟩
  have st : Step μ H μ (upd H a ho) := ⟨List.prefix_refl μ, fun b o hb h => by rw [upd_ne (fun e : b = a => hb (by rw [e]; exact ha))]; exact h, fun a h n => absurd h n⟩
  refine ⟨st, by simp [r.len], r.nd, fun a ha => let ⟨h1, o, h2⟩ := r.hh a ha; ⟨h1, o, st.keep a o h1 h2⟩, fun k o' e => ?_⟩
  by_cases hk : n = k
  · subst hk
    have hl : n < S.length := by rw [← r.len]; exact (List.getElem?_eq_some_iff.mp hm).1
    rw [List.getElem?_set_self hl] at e
    cases e
    exact ⟨a, ho, hm, upd_same, q.mono r st⟩
  · rw [List.getElem?_set_ne hk] at e
    obtain ⟨b, ho', h1, h2, h3⟩ := r.at_ k o' e
    refine ⟨b, ho', h1, ?_, h3.mono r st⟩
    rw [upd_ne ?_]
    · exact h2
    · rintro rfl
      obtain ⟨i1, e1⟩ := List.getElem?_eq_some_iff.mp hm
      obtain ⟨i2, e2⟩ := List.getElem?_eq_some_iff.mp h1
      exact hk ((List.getElem_inj r.nd).mp (e1.trans e2.symm))
theorem RelS.obj (r : RelS c μ S H) {n : Nat} {a : Addr} {o : Ob} (hs : S[n]? = some o) (hm : μ[n]? = some a) : ∃ ho, H a = some ho ∧ RelO c μ H o ho := by
  obtain ⟨b, ho, h1, h2, h3⟩ := r.at_ n o hs
  rw [hm] at h1
  cases h1
  exact ⟨ho, h2, h3⟩

/-! ### lists of data -/
theorem RelDs.length : ∀ {ds : List D} {vs : List V}, RelDs c μ H ds vs → ds.length = vs.length
  | _, _, .nil => rfl
  | _, _, .cons _ t => by simp [RelDs.length t]
theorem RelDs.get : ∀ {ds : List D} {vs : List V} {i : Nat} {d : D}, RelDs c μ H ds vs → ds[i]? = some d → ∃ v, vs[i]? = some v ∧ RelD c μ H d v
  | _, _, _, _, .nil, e => by simp at e
  | _, _, 0, _, .cons h _, e => by simp at e; subst e; exact ⟨_, rfl, h⟩
  | _, _, i + 1, d, .cons _ t, e => by
    obtain ⟨v, h1, h2⟩ := RelDs.get (i := i) (d := d) t (by simpa using e)
    exact ⟨v, by simpa using h1, h2⟩
theorem RelDs.append : ∀ {ds es : List D} {vs us : List V}, RelDs c μ H ds vs → RelDs c μ H es us → RelDs c μ H (ds ++ es) (vs ++ us)
  | _, _, _, _, .nil, s => s
  | _, _, _, _, .cons h t, s => .cons h (RelDs.append t s)
theorem RelDs.take : ∀ {ds : List D} {vs : List V} (n : Nat), RelDs c μ H ds vs → RelDs c μ H (ds.take n) (vs.take n)
  | _, _, 0, _ => .nil
  | _, _, _ + 1, .nil => .nil
  | _, _, n + 1, .cons h t => .cons h (RelDs.take n t)
theorem RelDs.drop : ∀ {ds : List D} {vs : List V} (n : Nat), RelDs c μ H ds vs → RelDs c μ H (ds.drop n) (vs.drop n)
  | _, _, 0, r => r
  | _, _, _ + 1, .nil => .nil
  | _, _, n + 1, .cons _ t => RelDs.drop n t
theorem RelDs.set {d : D} {v : V} (h : RelD c μ H d v) : ∀ {ds : List D} {vs : List V} (i : Nat), RelDs c μ H ds vs → RelDs c μ H (ds.set i d) (vs.set i v)
  | _, _, _, .nil => .nil
  | _, _, 0, .cons _ t => .cons h t
  | _, _, i + 1, .cons q t => .cons q (RelDs.set h i t)
theorem RelDs.ints : ∀ (ns : List Int), RelDs c μ H (ns.map D.int) (ns.map V.int)
  | [] => .nil
  | _ :: r => .cons (.int _) (RelDs.ints r)
theorem RelDs.dropLast : ∀ {ds : List D} {vs : List V}, RelDs c μ H ds vs → RelDs c μ H ds.dropLast vs.dropLast
  | _, _, .nil => .nil
  | _, _, .cons _ .nil => .nil
  | _, _, .cons h (.cons h2 t) => .cons h (RelDs.dropLast (.cons h2 t))
theorem RelDs.eraseIdx : ∀ {ds : List D} {vs : List V} (i : Nat), RelDs c μ H ds vs → RelDs c μ H (ds.eraseIdx i) (vs.eraseIdx i)
  | _, _, _, .nil => .nil
  | _, _, 0, .cons _ t => t
  | _, _, i + 1, .cons q t => .cons q (RelDs.eraseIdx i t)
theorem RelDs.rep {ds : List D} {vs : List V} (h : RelDs c μ H ds vs) : ∀ n, RelDs c μ H (List.replicate n ds).flatten (List.replicate n vs).flatten
  | 0 => .nil
  | n + 1 => by
    rw [List.replicate_succ, List.flatten_cons, List.replicate_succ, List.flatten_cons]
    exact h.append (RelDs.rep h n)
theorem RelDs.paired {ds : List D} {vs : List V} (h : RelDs c μ H ds vs) : Paired (RelD c μ H) ds vs := by
  induction ds generalizing vs with
  | nil => cases h; exact .nil
  | cons d ds ih => cases h with | cons a t => exact .cons a (ih t)

theorem RelSl.get {σd : Sl} {σ : St} (h : RelSl c μ H σd σ) {i : Nat} {d : D} (e : σd[i]? = some (some d)) : ∃ v, σ[i]? = some (some v) ∧ RelD c μ H d v := h.2 i d e
theorem RelSl.set {σd : Sl} {σ : St} (h : RelSl c μ H σd σ) (i : Nat) {d : D} {v : V} (q : RelD c μ H d v) : RelSl c μ H (σd.set i (some d)) (σ.set i (some v)) := by
  refine ⟨by simp [h.1], fun j d' e => ?_⟩
  by_cases hj : i = j
  · subst hj
    by_cases hl : i < σd.length
    · rw [List.getElem?_set_self hl] at e
      cases e
      exact ⟨v, by rw [List.getElem?_set_self (by rw [← h.1]; exact hl)], q⟩
    · rw [List.getElem?_eq_none (by simpa using hl)] at e
      cases e
  · rw [List.getElem?_set_ne hj] at e
    obtain ⟨v', h1, h2⟩ := h.2 j d' e
    exact ⟨v', by rw [List.getElem?_set_ne hj]; exact h1, h2⟩
def wipeD (σ : Sl) : List Nat → Sl
  | [] => σ
  | v :: vs => (wipeD σ vs).set v none
theorem wipeD_length (σ : Sl) : ∀ vs : List Nat, (wipeD σ vs).length = σ.length
  | [] => rfl
  | v :: vs => by unfold wipeD; rw [List.length_set, wipeD_length σ vs]
theorem wipeD_some {σ : Sl} {i : Nat} {x : D} : ∀ {vs : List Nat}, (wipeD σ vs)[i]? = some (some x) → σ[i]? = some (some x) ∧ i ∉ vs
  | [], h => ⟨h, by simp⟩
  | v :: vs, h => by
    unfold wipeD at h
    by_cases hi : v = i
    · subst hi
      by_cases hv : v < (wipeD σ vs).length
      · rw [List.getElem?_set_self hv] at h; cases h
      · rw [List.getElem?_eq_none (by simpa using hv)] at h; cases h
    · rw [List.getElem?_set_ne hi] at h
      obtain ⟨h1, h2⟩ := wipeD_some h
      exact ⟨h1, by simp only [List.mem_cons, not_or]; exact ⟨fun e => hi e.symm, h2⟩⟩
theorem wipe_out' {σ : St} {i : Nat} : ∀ {vs : List Nat}, i ∉ vs → (wipe σ vs)[i]? = σ[i]?
  | [], _ => rfl
  | v :: vs, h => by
    simp only [List.mem_cons, not_or] at h
    unfold wipe
    rw [List.getElem?_set_ne (fun e => h.1 e.symm)]
    exact wipe_out' h.2
theorem RelSl.wipe {σd : Sl} {σ : St} (h : RelSl c μ H σd σ) (vs : List Nat) : RelSl c μ H (wipeD σd vs) (L2.wipe σ vs) := by
  refine ⟨by rw [wipeD_length, wipe_length]; exact h.1, fun i d e => ?_⟩
  obtain ⟨h1, h2⟩ := wipeD_some e
  obtain ⟨v, h3, h4⟩ := h.2 i d h1
  exact ⟨v, by rw [wipe_out' h2]; exact h3, h4⟩
end

/-! ### objects that are being made -/
def Cn.hide (c : Cn) (a : Addr) : Cn := { c with hid := a :: c.hid }
section
variable {c : Cn} {μ μ' : List Addr} {S S' : Sto} {H H' : Hp} {a : Addr} {u : HO}
mutual
theorem RelD.unhide : ∀ {d : D} {v : V}, RelD (c.hide a) μ H d v → RelD c μ H d v
  | _, _, .non => .non
  | _, _, .bl b => .bl b
  | _, _, .int i => .int i
  | _, _, .str x => .str x
  | _, _, .tup h rs => .tup h (RelDs.unhide rs)
  | _, _, .lst h n hh rs => .lst h n (fun z => hh (List.mem_cons_of_mem _ z)) (RelDs.unhide rs)
  | _, _, .dk h n hh rs => .dk h n (fun z => hh (List.mem_cons_of_mem _ z)) (RelKs.unhide rs)
  | _, _, .hd h => .hd h
  | _, _, .scr h => .scr h
theorem RelDs.unhide : ∀ {ds : List D} {vs : List V}, RelDs (c.hide a) μ H ds vs → RelDs c μ H ds vs
  | _, _, .nil => .nil
  | _, _, .cons h t => .cons (RelD.unhide h) (RelDs.unhide t)
theorem RelKs.unhide : ∀ {ds : List (Key × D)} {vs : List (Key × V)}, RelKs (c.hide a) μ H ds vs → RelKs c μ H ds vs
  | _, _, .nil => .nil
  | _, _, .cons h t => .cons (RelD.unhide h) (RelKs.unhide t)
end
theorem RelO.map {c c' : Cn} (hc : c.ca = c'.ca) (f : ∀ {d v}, RelD c μ H d v → RelD c' μ' H' d v) (g : ∀ {d v}, RelDs c μ H d v → RelDs c' μ' H' d v) (k : ∀ {d v}, RelKs c μ H d v → RelKs c' μ' H' d v) {o : Ob} {ho : HO} (h : RelO c μ H o ho) : RelO c' μ' H' o ho := by
  cases o with
  | lst xs => obtain ⟨vs, e, q⟩ := h; exact ⟨vs, e, g q⟩
  | dk xs => obtain ⟨vs, e, q⟩ := h; exact ⟨vs, e, k q⟩
  | dt xs => obtain ⟨vs, e, q⟩ := h; exact ⟨vs, e, Paired.mapP q fun _ _ z => ⟨z.1, f z.2⟩⟩
  | ins C fs => obtain ⟨dx, vs, e, q⟩ := h; exact ⟨dx, vs, by rw [← hc]; exact e, Paired.mapP q fun _ _ z => ⟨z.1, f z.2⟩⟩
theorem RelS.unhide (r : RelS (c.hide a) μ S H) : RelS c μ S H :=
  ⟨r.len, r.nd, fun b hb => r.hh b (List.mem_cons_of_mem _ hb), fun n o e => let ⟨b, ho, h1, h2, h3⟩ := r.at_ n o e; ⟨b, ho, h1, h2, RelO.map (c := c.hide a) (c' := c) rfl RelD.unhide RelDs.unhide RelKs.unhide h3⟩⟩
mutual
/-- a new object is hidden: nothing is told by it yet -/
theorem RelD.hideNew (hp : H a = none) : ∀ {d : D} {v : V}, RelD c μ H d v → RelD (c.hide a) μ (upd H a u) d v
  | _, _, .non => .non
  | _, _, .bl b => .bl b
  | _, _, .int i => .int i
  | _, _, .str x => .str x
  | _, _, .tup h rs => .tup (h.imp (fun h => by rw [upd_ne (ne_of_none h hp)]; exact h) id) (RelDs.hideNew hp rs)
  | _, _, .lst h n hh rs => .lst (by rw [upd_ne (ne_of_none h hp)]; exact h) n (by
      intro z
      rcases List.mem_cons.mp z with z | z
      · exact ne_of_none h hp z
      · exact hh z) (RelDs.hideNew hp rs)
  | _, _, .dk h n hh rs => .dk (by rw [upd_ne (ne_of_none h hp)]; exact h) n (by
      intro z
      rcases List.mem_cons.mp z with z | z
      · exact ne_of_none h hp z
      · exact hh z) (RelKs.hideNew hp rs)
  | _, _, .hd h => .hd h
  | _, _, .scr h => .scr (h.imp (fun ⟨o, h⟩ => ⟨o, by rw [upd_ne (ne_of_none h hp)]; exact h⟩) id)
theorem RelDs.hideNew (hp : H a = none) : ∀ {ds : List D} {vs : List V}, RelDs c μ H ds vs → RelDs (c.hide a) μ (upd H a u) ds vs
  | _, _, .nil => .nil
  | _, _, .cons h t => .cons (RelD.hideNew hp h) (RelDs.hideNew hp t)
theorem RelKs.hideNew (hp : H a = none) : ∀ {ds : List (Key × D)} {vs : List (Key × V)}, RelKs c μ H ds vs → RelKs (c.hide a) μ (upd H a u) ds vs
  | _, _, .nil => .nil
  | _, _, .cons h t => .cons (RelD.hideNew hp h) (RelKs.hideNew hp t)
end
theorem RelS.hideNew (r : RelS c μ S H) (hp : H a = none) : RelS (c.hide a) μ S (upd H a u) :=
  ⟨r.len, r.nd, fun b hb => by
    rcases List.mem_cons.mp hb with e | hb
    · subst e; exact ⟨r.fresh hp, u, upd_same⟩
    · obtain ⟨h1, o, h2⟩ := r.hh b hb
      exact ⟨h1, o, by rw [upd_ne (ne_of_none h2 hp)]; exact h2⟩,
  fun n o e => let ⟨b, ho, h1, h2, h3⟩ := r.at_ n o e
    ⟨b, ho, h1, by rw [upd_ne (ne_of_none h2 hp)]; exact h2, RelO.map (c := c) (c' := c.hide a) rfl (RelD.hideNew hp) (RelDs.hideNew hp) (RelKs.hideNew hp) h3⟩⟩
/-- neither a tuple nor locked -/
def Loose (H : Hp) (a : Addr) : Prop := (∀ xs, H a ≠ some (.tup xs)) ∧ ∀ o u, H a ≠ some (.frz o u)
mutual
theorem RelD.updHid (hh : a ∈ c.hid) (hl : Loose H a) : ∀ {d : D} {v : V}, RelD c μ H d v → RelD c μ (upd H a u) d v
  | _, _, .non => .non
  | _, _, .bl b => .bl b
  | _, _, .int i => .int i
  | _, _, .str x => .str x
  | _, _, .tup h rs => .tup (h.imp (fun h => by rw [upd_ne (fun e => by rw [e] at h; exact hl.1 _ h)]; exact h) id) (RelDs.updHid hh hl rs)
  | _, _, .lst h n h3 rs => .lst (by rw [upd_ne (fun e => by rw [e] at h3; exact h3 hh)]; exact h) n h3 (RelDs.updHid hh hl rs)
  | _, _, .dk h n h3 rs => .dk (by rw [upd_ne (fun e => by rw [e] at h3; exact h3 hh)]; exact h) n h3 (RelKs.updHid hh hl rs)
  | _, _, .hd h => .hd h
  | _, _, .scr h => .scr (h.imp (fun ⟨o, h⟩ => ⟨o, by rw [upd_ne (fun e => by rw [e] at h; exact hl.2 _ _ h)]; exact h⟩) id)
theorem RelDs.updHid (hh : a ∈ c.hid) (hl : Loose H a) : ∀ {ds : List D} {vs : List V}, RelDs c μ H ds vs → RelDs c μ (upd H a u) ds vs
  | _, _, .nil => .nil
  | _, _, .cons h t => .cons (RelD.updHid hh hl h) (RelDs.updHid hh hl t)
theorem RelKs.updHid (hh : a ∈ c.hid) (hl : Loose H a) : ∀ {ds : List (Key × D)} {vs : List (Key × V)}, RelKs c μ H ds vs → RelKs c μ (upd H a u) ds vs
  | _, _, .nil => .nil
  | _, _, .cons h t => .cons (RelD.updHid hh hl h) (RelKs.updHid hh hl t)
end
theorem RelS.updHid (r : RelS c μ S H) (hh : a ∈ c.hid) (hl : Loose H a) : RelS c μ S (upd H a u) :=
  ⟨r.len, r.nd, fun b hb => by
    obtain ⟨h1, o, h2⟩ := r.hh b hb
    by_cases e : b = a
    · subst e; exact ⟨h1, u, upd_same⟩
    · exact ⟨h1, o, by rw [upd_ne e]; exact h2⟩,
  fun n o e => let ⟨b, ho, h1, h2, h3⟩ := r.at_ n o e
    ⟨b, ho, h1, by rw [upd_ne (fun e => by rw [e] at h1; exact (r.hh a hh).1 (List.mem_iff_getElem?.mpr ⟨n, h1⟩))]; exact h2, RelO.map (c := c) (c' := c) rfl (RelD.updHid hh hl) (RelDs.updHid hh hl) (RelKs.updHid hh hl) h3⟩⟩
theorem Step.updNew {μ0 : List Addr} {H0 : Hp} (st : Step μ0 H0 μ H) (h0 : H0 a = none) : Step μ0 H0 μ (upd H a u) :=
  ⟨st.pre, fun b o n h => by rw [upd_ne (ne_of_none h h0)]; exact st.keep b o n h, st.new⟩
theorem RelSl.unhide {σd : Sl} {σ : St} (h : RelSl (c.hide a) μ H σd σ) : RelSl c μ H σd σ := ⟨h.1, fun i d e => let ⟨v, e', q⟩ := h.2 i d e; ⟨v, e', q.unhide⟩⟩
theorem RelSl.hideNew {σd : Sl} {σ : St} (h : RelSl c μ H σd σ) (hp : H a = none) : RelSl (c.hide a) μ (upd H a u) σd σ := ⟨h.1, fun i d e => let ⟨v, e', q⟩ := h.2 i d e; ⟨v, e', q.hideNew hp⟩⟩
theorem RelSl.updHid {σd : Sl} {σ : St} (h : RelSl c μ H σd σ) (hh : a ∈ c.hid) (hl : Loose H a) : RelSl c μ (upd H a u) σd σ := ⟨h.1, fun i d e => let ⟨v, e', q⟩ := h.2 i d e; ⟨v, e', q.updHid hh hl⟩⟩
end
end Mp
set_option Elab.async false
set_option linter.all false
set_option maxRecDepth 100000
namespace Mp
open PySem L2

/-! ### results -/
inductive R (α : Type) where
  | ok (a : α) (S : Sto)
  | ex (cl : Nat) (fs : List (Str × D)) (S : Sto)
  | bad
def M (α : Type) := Sto → R α
def M.pure {α : Type} (a : α) : M α := fun S => .ok a S
def M.bind {α β : Type} (m : M α) (f : α → M β) : M β := fun S => match m S with
  | .ok a S' => f a S'
  | .ex c fs S' => .ex c fs S'
  | .bad => .bad
instance : Monad M where
  pure := M.pure
  bind := M.bind
def fail {α : Type} : M α := fun _ => .bad
def rd {α : Type} (f : Sto → Option α) : M α := fun S => match f S with
  | some a => .ok a S
  | none => .bad
def alloc (o : Ob) : M D := fun S => .ok (.hd S.length) (S ++ [o])
def put (n : Nat) (o : Ob) : M Unit := fun S => if n < S.length then .ok () (S.set n o) else .bad

/-! ### what values are worth -/
/-- a tuple as a key -/
def keyT (xs : List D) : Option (List Key) := match keysOf xs with
  | some ks => if ktup ks then none else some ks
  | none => none
def kD : Key → D
  | .inl i => .int i
  | .inr x => .str x
def valD {κ : Type} [DecidableEq κ] (kvs : List (κ × D)) (k : κ) : Option D := (kvs.find? fun kv => decide (kv.1 = k)).map (·.2)
def putD {κ : Type} [DecidableEq κ] (kvs : List (κ × D)) (k : κ) (v : D) : List (κ × D) :=
  if (kvs.any fun kv => decide (kv.1 = k)) = true then kvs.map (fun kv => if kv.1 = k then (kv.1, v) else kv) else kvs ++ [(k, v)]
def mergeD (kvs more : List (Key × D)) : List (Key × D) := more.foldl (fun acc kv => putD acc kv.1 kv.2) kvs

/-- the items of a list or tuple -/
def seqOf (S : Sto) : D → Option (List D)
  | .tup xs => some xs
  | .lst xs => some xs
  | .hd n => match S[n]? with
    | some (.lst xs) => some xs
    | _ => none
  | .scr ns => some (ns.map D.int)
  | _ => none
def lstOf (S : Sto) : D → Option (List D)
  | .lst xs => some xs
  | .hd n => match S[n]? with
    | some (.lst xs) => some xs
    | _ => none
  | _ => none

mutual
/-- nested data; g tells the lists at handles -/
def toP (g : Nat → Option PyData) : D → Option PyData
  | .non => some .none
  | .bl b => some (.bool b)
  | .int i => some (.int i)
  | .str x => some (.str x)
  | .tup xs => (toPs g xs).map .tuple
  | .lst xs => (toPs g xs).map .list
  | .hd n => g n
  | .dk _ => none
  | .scr _ => none
def toPs (g : Nat → Option PyData) : List D → Option (List PyData)
  | [] => some []
  | d :: ds => match toP g d, toPs g ds with
    | some p, some ps => some (p :: ps)
    | _, _ => none
end
def hdP (S : Sto) : Nat → Nat → Option PyData
  | 0, _ => none
  | k + 1, n => match S[n]? with
    | some (.lst xs) => (toPs (hdP S k) xs).map .list
    | _ => none
def datP (S : Sto) (d : D) : Option PyData := toP (hdP S 8) d

def truP (S : Sto) : D → Option Bool
  | .non => some false
  | .bl b => some b
  | .int i => some (i != 0)
  | .str x => if x.length ≤ sizeLine then some ((x.length : Int) != 0) else none
  | .tup xs => some (!xs.isEmpty)
  | .lst xs => some (!xs.isEmpty)
  | .dk kvs => some (!kvs.isEmpty)
  | .hd n => match S[n]? with
    | some (.lst xs) => some (!xs.isEmpty)
    | some (.dk kvs) => some (!kvs.isEmpty)
    | _ => none
  | .scr ns => some (!ns.isEmpty)

inductive Op2 where | add | sub | mul | fdiv | mod | pow
inductive Cop where | eq | ne | lt | le | gt | ge | is_ | isnot | in_ | notin
inductive Ty where | int | bool | str | tuple | list | dict

def small (i : Int) : Bool := decide (-(2 ^ 64) < i) && decide (i < 2 ^ 64)
/-- what an operator gives; lists and tuples by value -/
def binP (S : Sto) : Op2 → D → D → Option D
  | .add, .int i, .int j => some (.int (i + j))
  | .sub, .int i, .int j => some (.int (i - j))
  | .mul, .int i, .int j => if small i || small j then some (.int (i * j)) else none
  | .fdiv, .int i, .int j => if 0 < j ∧ j < 2 ^ 64 then some (.int (i / j)) else if j ≠ 0 ∧ j.natAbs < 1073741824 then some (.int (i.fdiv j)) else none
  | .mod, .int i, .int j => if 0 < j then some (.int (i % j)) else if j ≠ 0 then some (.int (i.fmod j)) else none
  | .pow, .int i, .int j => if small i = true ∧ 0 ≤ j ∧ j ≤ 1000000 then some (.int (i ^ j.toNat)) else none
  | .add, .str x, .str y => if x.length + y.length ≤ sizeLine then some (.str (x ++ y)) else none
  | .add, .tup xs, .tup ys => if xs.length + ys.length ≤ sizeLine then some (.tup (xs ++ ys)) else none
  | .add, a, b => match lstOf S a, lstOf S b with
    | some xs, some ys => if xs.length + ys.length ≤ sizeLine then some (.lst (xs ++ ys)) else none
    | _, _ => none
  | .mul, a, .int k => match lstOf S a with
    | some xs => if -(2 ^ 62) ≤ k ∧ k < 2 ^ 62 ∧ xs.length * k.toNat ≤ sizeLine then some (.lst (List.replicate k.toNat xs).flatten) else none
    | none => none
  | _, _, _ => none

/-- two lists in one -/
def catP (S : Sto) (x y : D) : Option (List D) := match lstOf S x, lstOf S y with
  | some xs, some ys => if xs.length + ys.length ≤ sizeLine then some (xs ++ ys) else none
  | _, _ => none
/-- in place: ints and texts -/
def augP (S : Sto) (o : Op2) (x y : D) : Option D := match o, x, y with
  | .add, .int i, .int j => some (.int (i + j))
  | .sub, .int i, .int j => some (.int (i - j))
  | .add, .str x, .str y => if x.length + y.length ≤ sizeLine then some (.str (x ++ y)) else none
  | _, _, _ => none
def ltStr (x y : Str) : Bool := decide (x.cps.toList < y.cps.toList)
def cmpP (S : Sto) : Cop → D → D → Option Bool
  | .lt, .int i, .int j => some (decide (i < j))
  | .le, .int i, .int j => some (decide (i ≤ j))
  | .gt, .int i, .int j => some (decide (j < i))
  | .ge, .int i, .int j => some (decide (j ≤ i))
  | .lt, .str x, .str y => some (ltStr x y)
  | .le, .str x, .str y => some (!ltStr y x)
  | .gt, .str x, .str y => some (ltStr y x)
  | .ge, .str x, .str y => some (!ltStr x y)
  | .is_, .non, .non => some true
  | .is_, _, .non => some false
  | .isnot, .non, .non => some false
  | .isnot, _, .non => some true
  | .eq, .int i, .int j => some (decide (i = j))
  | .ne, .int i, .int j => some (!decide (i = j))
  | .eq, .str x, .str y => some (decide (x = y))
  | .ne, .str x, .str y => some (!decide (x = y))
  | .eq, .bl x, .bl y => some (decide (x = y))
  | .ne, .bl x, .bl y => some (!decide (x = y))
  | .eq, a, b => match datP S a, datP S b with
    | some p, some q => if SeqAt.shaped p && SeqAt.shaped q then some (PyData.eqv p q) else none
    | _, _ => none
  | .ne, a, b => match datP S a, datP S b with
    | some p, some q => if SeqAt.shaped p && SeqAt.shaped q then some (!PyData.eqv p q) else none
    | _, _ => none
  | .in_, a, b => inP S a b
  | .notin, a, b => (inP S a b).map fun k => !k
  | _, _, _ => none
where
  inP (S : Sto) (a : D) : D → Option Bool
    | .dk kvs => match keyOf a with
      | some k => some (valD kvs k).isSome
      | none => none
    | .str y => match a with
      | .str x => some (!(Builtin.Str.occurrences y x 0 y.length 1).isEmpty)
      | _ => none
    | .hd n => match S[n]? with
      | some (.dk kvs) => match keyOf a with
        | some k => some (valD kvs k).isSome
        | none => none
      | some (.dt kvs) => match a with
        | .tup xs => match keyT xs with
          | some k => some (valD kvs k).isSome
          | none => none
        | _ => none
      | some (.lst xs) => deep S a (.hd n)
      | _ => none
    | b => deep S a b
  deep (S : Sto) (a b : D) : Option Bool := match datP S a, datP S b with
    | some p, some (.list qs) => if SeqAt.shaped p && SeqAt.shaped (.list qs) then some (qs.any fun z => PyData.eqv z p) else none
    | some p, some (.tuple qs) => if SeqAt.shaped p && SeqAt.shaped (.tuple qs) then some (qs.any fun z => PyData.eqv z p) else none
    | _, _ => none

def ixP (S : Sto) : D → D → Option D
  | .tup xs, .int i => atI xs i
  | .lst xs, .int i => atI xs i
  | .scr ns, .int i => (atI ns i).map D.int
  | .str x, .int i => if x.length ≤ sizeLine then (atI x.cps.toList i).map fun c => .str ⟨#[c]⟩ else none
  | .dk kvs, k => match keyOf k with
    | some k => valD kvs k
    | none => none
  | .hd n, k => match S[n]?, k with
    | some (.lst xs), .int i => atI xs i
    | some (.dk kvs), k => match keyOf k with
      | some k => valD kvs k
      | none => none
    | some (.dt kvs), .tup xs => match keyT xs with
      | some k => valD kvs k
      | none => none
    | _, _ => none
  | _, _ => none
def cutL {α : Type} (xs : List α) (lo hi : Option Int) : List α := (xs.drop (HT.sIx xs.length 0 lo)).take (HT.sIx xs.length xs.length hi - HT.sIx xs.length 0 lo)
def slP (S : Sto) (a : D) (lo hi : Option Int) : Option D := match a with
  | .tup xs => some (.tup (cutL xs lo hi))
  | .lst xs => some (.lst (cutL xs lo hi))
  | .scr ns => some (.lst ((cutL ns lo hi).map D.int))
  | .str x => if x.length ≤ sizeLine then some (.str (cutS x lo hi)) else none
  | .hd n => match S[n]? with
    | some (.lst xs) => some (.lst (cutL xs lo hi))
    | _ => none
  | _ => none
/-- a[i] = v -/
def setP (S : Sto) (a i v : D) : Option Sto := match a with
  | .hd n => match S[n]? with
    | some (.lst xs) => match i with
      | .int i => match ixN xs.length i with
        | some j => some (S.set n (.lst (xs.set j v)))
        | none => none
      | _ => none
    | some (.dk kvs) => match keyOf i with
      | some k => if kvs.length < sizeLine then some (S.set n (.dk (putD kvs k v))) else none
      | none => none
    | some (.dt kvs) => match i with
      | .tup xs => match keyT xs with
        | some k => if kvs.length < sizeLine then some (S.set n (.dt (putD kvs k v))) else none
        | none => none
      | _ => none
    | _ => none
  | _ => none
def lookF (fs : List (Str × D)) (f : Str) : Option D := fs.lookup f
def putFD (f : Str) (v : D) : List (Str × D) → List (Str × D)
  | [] => [(f, v)]
  | (g, u) :: r => if g = f then (g, v) :: r else (g, u) :: putFD f v r
def fldP (S : Sto) (a : D) (f : Str) : Option D := match a with
  | .hd n => match S[n]? with
    | some (.ins _ fs) => fs.lookup f
    | _ => none
  | _ => none
def setF (S : Sto) (a : D) (f : Str) (v : D) : Option Sto := match a with
  | .hd n => match S[n]? with
    | some (.ins C fs) => if fs.length < 1000 then some (S.set n (.ins C (putFD f v fs))) else none
    | _ => none
  | _ => none

def clsP (S : Sto) : D → Option Nat
  | .hd n => match S[n]? with
    | some (.ins C _) => some C
    | _ => none
  | _ => none
def setFC (S : Sto) (C : Nat) (a : D) (f : Str) (v : D) : Option Sto := if clsP S a = some C then setF S a f v else none
def isTyP (S : Sto) : Ty → D → Option Bool
  | t, .non => some false
  | .bool, .bl _ => some true
  | .int, .bl _ => some true
  | _, .bl _ => some false
  | .int, .int _ => some true
  | _, .int _ => some false
  | .str, .str _ => some true
  | _, .str _ => some false
  | .tuple, .tup _ => some true
  | _, .tup _ => some false
  | .list, .lst _ => some true
  | _, .lst _ => some false
  | .dict, .dk _ => some true
  | _, .dk _ => some false
  | _, .scr _ => none
  | t, .hd n => match S[n]?, t with
    | some (.lst _), .list => some true
    | some (.lst _), _ => some false
    | some (.dk _), .dict => some true
    | some (.dk _), _ => some false
    | some (.dt _), .dict => some true
    | some (.dt _), _ => some false
    | _, _ => none

def isis (S : Sto) (x : D) : List Ty → Option Bool
  | [] => some false
  | t :: ts => match isTyP S t x, isis S x ts with
    | some a, some b => some (a || b)
    | _, _ => none
/-! ### built-in functions -/
inductive Bi where | len | int | bool | str | abs | max2 | min2 | max1 | min1 | sum | all | any | tuple
  deriving DecidableEq
/-- .. that give a new list -/
inductive Bf where | list | sorted
  deriving DecidableEq
/-- .. that give a new dict -/
inductive Bm where | append | extend | pop | index
  deriving DecidableEq

def intsOf : List D → Option (List Int)
  | [] => some []
  | .int i :: r => (intsOf r).map (i :: ·)
  | _ => none
def strsOf : List D → Option (List Str)
  | [] => some []
  | .str i :: r => (strsOf r).map (i :: ·)
  | _ => none
def blsOf : List D → Option (List Bool)
  | [] => some []
  | .bl i :: r => (blsOf r).map (i :: ·)
  | _ => none
def dkOf (S : Sto) : D → Option (List (Key × D))
  | .dk kvs => some kvs
  | .hd n => match S[n]? with
    | some (.dk kvs) => some kvs
    | _ => none
  | _ => none
def keyInts : List (Key × D) → Option (List Int)
  | [] => some []
  | (.inl i, _) :: r => (keyInts r).map (i :: ·)
  | _ => none
def keyStrs : List (Key × D) → Option (List Str)
  | [] => some []
  | (.inr i, _) :: r => (keyStrs r).map (i :: ·)
  | _ => none
def sortI (ns : List Int) : List Int := ns.mergeSort fun a b => decide (a ≤ b)
def sortT (xs : List Str) : List Str := xs.mergeSort fun a b => !ltStr b a
def foldMax : Int → List Int → Int
  | m, [] => m
  | m, x :: r => foldMax (if m < x then x else m) r
def foldMin : Int → List Int → Int
  | m, [] => m
  | m, x :: r => foldMin (if x < m then x else m) r
def lenP (S : Sto) : D → Option Nat
  | .str x => if x.length ≤ sizeLine then some x.length else none
  | .dk kvs => some kvs.length
  | .hd n => match S[n]? with
    | some (.lst xs) => some xs.length
    | some (.dk kvs) => some kvs.length
    | _ => none
  | .tup xs => some xs.length
  | .lst xs => some xs.length
  | .scr ns => some ns.length
  | _ => none
def biP (S : Sto) : Bi → List D → Option D
  | .len, [d] => (lenP S d).map fun n => .int (n : Nat)
  | .int, [.int i] => some (.int i)
  | .int, [.bl b] => some (.int (if b then 1 else 0))
  | .bool, [.int i] => some (.bl (i != 0))
  | .bool, [.bl b] => some (.bl b)
  | .str, [.int i] => if i.natAbs.log2 < 1920 then some (.str (toString i)) else none
  | .abs, [.int i] => some (.int (if i < 0 then -i else i))
  | .max2, [.int i, .int j] => some (.int (if j > i then j else i))
  | .min2, [.int i, .int j] => some (.int (if j < i then j else i))
  | .max1, [d] => match (lstOf S d).bind intsOf with
    | some (i :: r) => some (.int (foldMax i r))
    | _ => none
  | .min1, [d] => match (lstOf S d).bind intsOf with
    | some (i :: r) => some (.int (foldMin i r))
    | _ => none
  | .sum, [d] => ((lstOf S d).bind intsOf).map fun ns => .int ns.sum
  | .all, [d] => ((lstOf S d).bind blsOf).map fun bs => .bl (bs.all id)
  | .any, [d] => ((lstOf S d).bind blsOf).map fun bs => .bl (bs.any id)
  | .tuple, [d] => (seqOf S d).map .tup
  | _, _ => none
def bfP (S : Sto) : Bf → List D → Option (List D)
  | .list, [d] => seqOf S d
  | .sorted, [d] => match lstOf S d with
    | none => match dkOf S d with
      | some kvs => match keyInts kvs with
        | some ks => if ks.length < 64 then some ((sortI ks).map D.int) else none
        | none => match keyStrs kvs with
          | some ks => if ks.length < 64 then some ((sortT ks).map D.str) else none
          | none => none
      | none => none
    | some xs => match intsOf xs with
      | some ns => some ((sortI ns).map D.int)
      | none => match strsOf xs with
        | some ys => if ys.length < 64 then some ((sortT ys).map D.str) else none
        | none => none
  | _, _ => none
/-- the first place of an equal one -/
def findP (p : PyData) : List PyData → Nat → Option Nat
  | [], _ => none
  | q :: r, i => if PyData.eqv q p then some i else findP p r (i + 1)
def bmP (S : Sto) : Bm → D → List D → Option (D × Sto)
  | .append, .hd n, [d] => match S[n]? with
    | some (.lst xs) => if xs.length < sizeLine then some (.non, S.set n (.lst (xs ++ [d]))) else none
    | _ => none
  | .extend, .hd n, [d] => match S[n]?, lstOf S d with
    | some (.lst xs), some ys => if xs.length + ys.length ≤ sizeLine then some (.non, S.set n (.lst (xs ++ ys))) else none
    | _, _ => none
  | .pop, .hd n, [] => match S[n]? with
    | some (.lst xs) => match xs[xs.length - 1]? with
      | some y => some (y, S.set n (.lst xs.dropLast))
      | none => none
    | _ => none
  | .index, a, [d] => match lstOf S a with
    | some _ => match datP S a, datP S d with
      | some (.list ps), some p => if SeqAt.shaped p && SeqAt.shaped (.list ps) then (findP p ps 0).map fun j => (.int (j : Nat), S) else none
      | _, _ => none
    | none => none
  | _, _, _ => none

/-- the receiver is of the method's type -/
def recvP (S : Sto) : Bm → D → Option Unit
  | _, d => (lstOf S d).map fun _ => ()

/-! ### the text -/
mutual
inductive E where
  | loc (i : Nat) | cst (d : D) | glb (j : Nat)
  | bin (o : Op2) (a b : E) | catM (a b : E) | neg (a : E) | not_ (a : E)
  | cmp (o : Cop) (a b : E) | chn (o p : Cop) (a b c : E)
  | and_ (a b : E) | or_ (a b : E) | ite (c a b : E)
  | tup (es : Es) | lst (m : Bool) (es : Es) | dnK | dnT | disp (ks : List Key) (es : Es)
  | ix (a i : E) | sl (a : E) (lo hi : Eo)
  | fld (a : E) (f : Str)
  | call (f : Nat) (es : Es) | meth (a : E) (m : Str) (es : Es) | new (C : Nat) (es : Es)
  | bi (b : Bi) (es : Es) | bf (m : Bool) (b : Bf) (es : Es) | bm (m : Bm) (a : E) (es : Es)
  | isi (ts : List Ty) (a : E)
  | comp (m : Bool) (own : List Nat) (t : T) (it : It) (c : Eo) (e : E)
  | comp2 (own own1 : List Nat) (t : T) (it : It) (c : Eo) (t1 : T) (it1 : It) (c1 : Eo) (e : E)
  | dictOf (m : Bool) (a : E)
inductive Es where | nil | cons (e : E) (es : Es)
inductive Eo where | no | yes (e : E)
inductive It where | seq (e : E) | rng (es : Es) | enum (e : E) | zip (a b : E)
inductive T where | nm (i : Nat) | tp (ts : Ts) | sub (o i : E) | fld (o : E) (f : Str)
inductive Ts where | nil | cons (t : T) (ts : Ts)
end
mutual
inductive Sm where
  | asg (t : T) (e : E) | par (js : List Nat) (es : Es)
  | aug (i : Nat) (o : Op2) (e : E) | augF (o : E) (f : Str) (p : Op2) (e : E)
  | ex (e : E) | ret (e : Eo) | if_ (c : E) (a b : Ss) | wh (c : E) (b : Ss) | for_ (t : T) (it : It) (b : Ss)
  | pass | brk | cont
inductive Ss where | nil | cons (s : Sm) (r : Ss)
end

inductive Fl where | nx | bk | ct | rt (d : D)
inductive Src where | st (ds : List D) | ha (n : Nat) | he (n : Nat)
def Src.next : Src → Nat → M (Option D)
  | .st ds, i => pure ds[i]?
  | .ha n, i => rd fun S => match S[n]? with
    | some (.lst xs) => some xs[i]?
    | _ => none
  | .he n, i => rd fun S => match S[n]? with
    | some (.lst xs) => some (xs[i]?.map fun x => .tup [.int (i : Nat), x])
    | _ => none

/-- how many turns at least are given to a loop -/
def Src.cap (S : Sto) : Src → Nat
  | .st ds => ds.length + 1
  | .ha n => match S[n]? with
    | some (.lst xs) => xs.length + 1
    | _ => 1
  | .he n => match S[n]? with
    | some (.lst xs) => xs.length + 1
    | _ => 1
def atCap {α : Type} (src : Src) (fuel : Nat) (f : Nat → M α) : M α := fun S => f (src.cap S + fuel) S
structure En where
  call : Nat → List D → M D
  callI : Nat → List D → M D
  meth : Nat → Str → Option Nat
  ini : Nat → Option Nat
  glob : Nat → D
  fuel : Nat

def enumD (i : Nat) : List D → List D
  | [] => []
  | x :: r => .tup [.int (i : Nat), x] :: enumD (i + 1) r
def zipD : List D → List D → List D
  | x :: xs, y :: ys => .tup [x, y] :: zipD xs ys
  | _, _ => []
def rngD (lo : Int) : Nat → List D
  | 0 => []
  | n + 1 => .int lo :: rngD (lo + 1) n
def inR (i : Int) : Bool := decide (-(2 ^ 62) ≤ i) && decide (i < 2 ^ 62)

def test (m : M D) : M Bool := do
  let d ← m
  rd fun S => truP S d
def stp (f : Sto → Option Sto) : M Unit := fun S => match f S with
  | some S' => .ok () S'
  | none => .bad
def stpD (f : Sto → Option (D × Sto)) : M D := fun S => match f S with
  | some (d, S') => .ok d S'
  | none => .bad

/-- a comprehension's loop: the items made so far come out in front -/
def loopC (src : Src) (t : D → M Sl) (c : Sl → M Bool) (e : Sl → M D) : Nat → Nat → M (List D)
  | 0, _ => fail
  | k + 1, i => do
    match ← src.next i with
    | none => pure []
    | some x => do
      let σ ← t x
      if ← c σ then do
        let d ← e σ
        let ds ← loopC src t c e k (i + 1)
        pure (d :: ds)
      else loopC src t c e k (i + 1)
/-- .. into a list at a handle -/
def loopM (src : Src) (n : Nat) (t : D → M Sl) (c : Sl → M Bool) (e : Sl → M D) : Nat → Nat → M Unit
  | 0, _ => fail
  | k + 1, i => do
    match ← src.next i with
    | none => pure ()
    | some x => do
      let σ ← t x
      if ← c σ then do
        let d ← e σ
        stp fun S => match S[n]? with
          | some (.lst xs) => if xs.length < sizeLine then some (S.set n (.lst (xs ++ [d]))) else none
          | _ => none
        loopM src n t c e k (i + 1)
      else loopM src n t c e k (i + 1)
/-- for over for: each outer item's inner items -/
def loopC2 (src : Src) (t : D → M Sl) (c : Sl → M Bool) (inner : Sl → M (List D)) : Nat → Nat → M (List D)
  | 0, _ => fail
  | k + 1, i => do
    match ← src.next i with
    | none => pure []
    | some x => do
      let σ ← t x
      if ← c σ then do
        let ds ← inner σ
        let es ← loopC2 src t c inner k (i + 1)
        pure (ds ++ es)
      else loopC2 src t c inner k (i + 1)
def loopF (src : Src) (t : D → Sl → M Sl) (b : Sl → M (Fl × Sl)) : Nat → Nat → Sl → M (Fl × Sl)
  | 0, _, _ => fail
  | k + 1, i, σ => do
    match ← src.next i with
    | none => pure (.nx, σ)
    | some x => do
      let σ1 ← t x σ
      let r ← b σ1
      match r.1 with
      | .rt d => pure (.rt d, r.2)
      | .bk => pure (.nx, r.2)
      | _ => loopF src t b k (i + 1) r.2
def loopW (c : Sl → M Bool) (b : Sl → M (Fl × Sl)) : Nat → Sl → M (Fl × Sl)
  | 0, _ => fail
  | k + 1, σ => do
    if ← c σ then do
      let r ← b σ
      match r.1 with
      | .rt d => pure (.rt d, r.2)
      | .bk => pure (.nx, r.2)
      | _ => loopW c b k r.2
    else pure (.nx, σ)
def capped (ds : List D) : M (List D) := if ds.length ≤ sizeLine then pure ds else fail
def pairsOf : List D → Option (List (Key × D))
  | [] => some []
  | .tup [k, v] :: r => match keyOf k, pairsOf r with
    | some k, some r => some ((k, v) :: r)
    | _, _ => none
  | _ => none

mutual
def evE (P : En) : E → Sl → M D
  | .loc i, σ => match σ[i]? with
    | some (some d) => pure d
    | _ => fail
  | .cst d, _ => pure d
  | .glb j, _ => pure (P.glob j)
  | .bin o a b, σ => do
    let x ← evE P a σ
    let y ← evE P b σ
    rd fun S => binP S o x y
  | .catM a b, σ => do
    let x ← evE P a σ
    let y ← evE P b σ
    let zs ← rd fun S => catP S x y
    alloc (.lst zs)
  | .neg a, σ => do
    match ← evE P a σ with
    | .int i => pure (.int (-i))
    | _ => fail
  | .not_ a, σ => do
    let k ← test (evE P a σ)
    pure (.bl (!k))
  | .cmp o a b, σ => do
    let x ← evE P a σ
    let y ← evE P b σ
    let k ← rd fun S => cmpP S o x y
    pure (.bl k)
  | .chn o p a b c, σ => do
    let x ← evE P a σ
    let y ← evE P b σ
    let k ← rd fun S => cmpP S o x y
    if k then do
      let z ← evE P c σ
      let k ← rd fun S => cmpP S p y z
      pure (.bl k)
    else pure (.bl false)
  | .and_ a b, σ => do
    let x ← evE P a σ
    if ← rd fun S => truP S x then evE P b σ else pure x
  | .or_ a b, σ => do
    let x ← evE P a σ
    if ← rd fun S => truP S x then pure x else evE P b σ
  | .ite c a b, σ => do
    if ← test (evE P c σ) then evE P a σ else evE P b σ
  | .tup es, σ => do
    let ds ← evEs P es σ
    let ds ← capped ds
    pure (.tup ds)
  | .lst m es, σ => do
    let ds ← evEs P es σ
    let ds ← capped ds
    if m then alloc (.lst ds) else pure (.lst ds)
  | .dnK, _ => alloc (.dk [])
  | .dnT, _ => alloc (.dt [])
  | .disp ks es, σ => do
    let ds ← evEs P es σ
    if ks.length = ds.length then pure (.dk (mergeD [] (ks.zip ds))) else fail
  | .ix a i, σ => do
    let x ← evE P a σ
    let y ← evE P i σ
    rd fun S => ixP S x y
  | .sl a lo hi, σ => do
    let x ← evE P a σ
    let l ← evI P lo σ
    let h ← evI P hi σ
    rd fun S => slP S x l h
  | .fld a f, σ => do
    let x ← evE P a σ
    rd fun S => fldP S x f
  | .call f es, σ => do
    let ds ← evEs P es σ
    P.call f ds
  | .meth a m es, σ => do
    let x ← evE P a σ
    let C ← rd fun S => match x with
      | .hd n => match S[n]? with
        | some (.ins C fs) => if (fs.lookup m).isNone then some C else none
        | _ => none
      | _ => none
    let ds ← evEs P es σ
    match P.meth C m with
    | some f => P.call f (x :: ds)
    | none => fail
  | .new C es, σ => do
    let ds ← evEs P es σ
    match P.ini C with
    | some f => do
      let x ← alloc (.ins C [])
      match ← P.callI f (x :: ds) with
      | .non => pure x
      | _ => fail
    | none => fail
  | .bi b es, σ => do
    let ds ← evEs P es σ
    rd fun S => biP S b ds
  | .bf m b es, σ => do
    let ds ← evEs P es σ
    let ys ← rd fun S => bfP S b ds
    if m then alloc (.lst ys) else pure (.lst ys)
  | .bm m a es, σ => do
    let x ← evE P a σ
    let _ ← rd fun S => recvP S m x
    let ds ← evEs P es σ
    stpD fun S => bmP S m x ds
  | .isi ts a, σ => do
    let x ← evE P a σ
    rd fun S => (isis S x ts).map D.bl
  | .comp m own t it c e, σ => do
    let src ← evIt P it σ
    if m then do
      match ← alloc (.lst []) with
      | .hd n => do
        atCap src P.fuel fun k => loopM src n (fun x => evT P t x (wipeD σ own)) (fun σ => evC P c σ) (fun σ => evE P e σ) k 0
        pure (.hd n)
      | _ => fail
    else do
      let ds ← atCap src P.fuel fun k => loopC src (fun x => evT P t x (wipeD σ own)) (fun σ => evC P c σ) (fun σ => evE P e σ) k 0
      let ds ← capped ds
      pure (.lst ds)
  | .comp2 own own1 t it c t1 it1 c1 e, σ => do
    let src ← evIt P it σ
    let ds ← atCap src P.fuel fun k => loopC2 src (fun x => evT P t x (wipeD σ own)) (fun σ => evC P c σ) (fun σ => do
      let src1 ← evIt P it1 σ
      atCap src1 P.fuel fun k => loopC src1 (fun x => evT P t1 x (wipeD σ own1)) (fun σ => evC P c1 σ) (fun σ => evE P e σ) k 0) k 0
    let ds ← capped ds
    pure (.lst ds)
  | .dictOf m a, σ => do
    let x ← evE P a σ
    let kvs ← rd fun S => (lstOf S x).bind pairsOf
    if m then alloc (.dk (mergeD [] kvs)) else pure (.dk (mergeD [] kvs))
def evEs (P : En) : Es → Sl → M (List D)
  | .nil, _ => pure []
  | .cons e es, σ => do
    let d ← evE P e σ
    let ds ← evEs P es σ
    pure (d :: ds)
def evI (P : En) : Eo → Sl → M (Option Int)
  | .no, _ => pure none
  | .yes e, σ => do
    match ← evE P e σ with
    | .int i => pure (some i)
    | _ => fail
def evC (P : En) : Eo → Sl → M Bool
  | .no, _ => pure true
  | .yes e, σ => test (evE P e σ)
def evIt (P : En) : It → Sl → M Src
  | .seq e, σ => do
    match ← evE P e σ with
    | .tup ds => pure (.st ds)
    | .lst ds => pure (.st ds)
    | .scr ns => pure (.st (ns.map D.int))
    | .str x => pure (.st (x.cps.toList.map fun c => .str ⟨#[c]⟩))
    | .hd n => rd fun S => match S[n]? with
      | some (.lst _) => some (.ha n)
      | _ => none
    | _ => fail
  | .rng es, σ => do
    match ← evEs P es σ with
    | [.int j] => if inR j then pure (.st (rngD 0 j.toNat)) else fail
    | [.int i, .int j] => if inR i && inR j then pure (.st (rngD i (j - i).toNat)) else fail
    | _ => fail
  | .enum e, σ => do
    match ← evE P e σ with
    | .tup ds => pure (.st (enumD 0 ds))
    | .lst ds => pure (.st (enumD 0 ds))
    | .hd n => rd fun S => match S[n]? with
      | some (.lst _) => some (.he n)
      | _ => none
    | _ => fail
  | .zip a b, σ => do
    let x ← evE P a σ
    let y ← evE P b σ
    match x, y with
    | .tup xs, .tup ys => pure (.st (zipD xs ys))
    | .lst xs, .lst ys => pure (.st (zipD xs ys))
    | _, _ => fail
def evT (P : En) : T → D → Sl → M Sl
  | .nm i, d, σ => pure (σ.set i (some d))
  | .tp ts, d, σ => match d with
    | .tup ds => evTs P ts ds σ
    | _ => fail
  | .sub o i, d, σ => do
    let x ← evE P o σ
    let y ← evE P i σ
    stp fun S => setP S x y d
    pure σ
  | .fld o f, d, σ => do
    let x ← evE P o σ
    stp fun S => setF S x f d
    pure σ
def evTs (P : En) : Ts → List D → Sl → M Sl
  | .nil, [], σ => pure σ
  | .cons t ts, d :: ds, σ => do
    let σ1 ← evT P t d σ
    evTs P ts ds σ1
  | _, _, _ => fail
end
def setAll : List Nat → List D → Sl → Option Sl
  | [], [], σ => some σ
  | i :: is, d :: ds, σ => setAll is ds (σ.set i (some d))
  | _, _, _ => none
mutual
def evS (P : En) : Sm → Sl → M (Fl × Sl)
  | .asg t e, σ => do
    let d ← evE P e σ
    let σ1 ← evT P t d σ
    pure (.nx, σ1)
  | .par js es, σ => do
    let ds ← evEs P es σ
    match setAll js ds σ with
    | some σ1 => pure (.nx, σ1)
    | none => fail
  | .aug i o e, σ => match σ[i]? with
    | some (some x) => do
      let y ← evE P e σ
      let z ← rd fun S => augP S o x y
      pure (.nx, σ.set i (some z))
    | _ => fail
  | .augF o f p e, σ => do
    let x ← evE P o σ
    let C ← rd fun S => clsP S x
    let v ← rd fun S => fldP S x f
    let w ← evE P e σ
    let z ← rd fun S => augP S p v w
    stp fun S => setFC S C x f z
    pure (.nx, σ)
  | .ex e, σ => do
    let _ ← evE P e σ
    pure (.nx, σ)
  | .ret .no, σ => pure (.rt .non, σ)
  | .ret (.yes e), σ => do
    let d ← evE P e σ
    pure (.rt d, σ)
  | .if_ c a b, σ => do
    if ← test (evE P c σ) then evB P a σ else evB P b σ
  | .wh c b, σ => loopW (fun σ => test (evE P c σ)) (fun σ => evB P b σ) P.fuel σ
  | .for_ t it b, σ => do
    let src ← evIt P it σ
    atCap src P.fuel fun k => loopF src (fun x σ => evT P t x σ) (fun σ => evB P b σ) k 0 σ
  | .pass, σ => pure (.nx, σ)
  | .brk, σ => pure (.bk, σ)
  | .cont, σ => pure (.ct, σ)
def evB (P : En) : Ss → Sl → M (Fl × Sl)
  | .nil, σ => pure (.nx, σ)
  | .cons s r, σ => do
    let x ← evS P s σ
    match x.1 with
    | .nx => evB P r x.2
    | _ => pure x
end
structure Fn where
  slots : Nat
  pars : Nat
  body : Ss
structure Pg where
  fns : Nat → Fn
  meth : Nat → Str → Option Nat
  ini : Nat → Option Nat
  glob : Nat → D
  fuel : Nat
def startD (n : Nat) (ds : List D) : Sl := ds.map some ++ List.replicate (n - ds.length) none
def retD : Fl → M D
  | .rt d => pure d
  | .nx => pure .non
  | _ => fail
/-- a def's body at its arguments -/
def runB (g : Pg) (c cI : Nat → List D → M D) (f : Nat) (ds : List D) : M D :=
  if ds.length = (g.fns f).pars then do
    let r ← evB ⟨c, cI, g.meth, g.ini, g.glob, g.fuel⟩ (g.fns f).body (startD (g.fns f).slots ds)
    retD r.1
  else fail
def run (g : Pg) : Nat → Nat → List D → M D
  | 0 => fun _ _ => fail
  | 1 => runB g (fun _ _ => fail) (fun _ _ => fail)
  | k + 2 => runB g (run g (k + 1)) (run g k)
theorem run_succ (g : Pg) (k : Nat) : run g (k + 1) = runB g (run g k) (run g k.pred) := by
  cases k <;> rfl
end Mp
set_option Elab.async false
set_option linter.all false
set_option maxRecDepth 100000
namespace Mp
open PySem L2

def Post (c : Cn) (μ : List Addr) (H : Hp) (d : D) (S' : Sto) (Q : VK) : Prop := ∀ μ' H' v, Step μ H μ' H' → RelS c μ' S' H' → RelD c μ' H' d v → Q v H'
def PostL (c : Cn) (μ : List Addr) (H : Hp) (ds : List D) (S' : Sto) (Q : List V → Hp → Prop) : Prop := ∀ μ' H' vs, Step μ H μ' H' → RelS c μ' S' H' → RelDs c μ' H' ds vs → Q vs H'
def PostB (c : Cn) (μ : List Addr) (H : Hp) (b : Bool) (S' : Sto) (Q : Bool → Hp → Prop) : Prop := ∀ μ' H', Step μ H μ' H' → RelS c μ' S' H' → Q b H'
def Rx (c : Cn) (m : Sl → M D) : TE := fun σ H Q => ∃ σd S μ, RelS c μ S H ∧ RelSl c μ H σd σ ∧ ∃ d S', m σd S = .ok d S' ∧ Post c μ H d S' Q
def RxA (c : Cn) (m : Sl → M (List D)) : TA := fun σ H Q => ∃ σd S μ, RelS c μ S H ∧ RelSl c μ H σd σ ∧ ∃ ds S', m σd S = .ok ds S' ∧ PostL c μ H ds S' Q
def RxT (c : Cn) (m : Sl → M Bool) : TT := fun σ H Q => ∃ σd S μ, RelS c μ S H ∧ RelSl c μ H σd σ ∧ ∃ b S', m σd S = .ok b S' ∧ PostB c μ H b S' Q
/-- operations by values -/
def rOp (c : Cn) (g : D → D → M D) : R2 := fun x y H Q => ∃ S μ dx dy, RelS c μ S H ∧ RelD c μ H dx x ∧ RelD c μ H dy y ∧ ∃ d S', g dx dy S = .ok d S' ∧ Post c μ H d S' Q
def rCa (c : Cn) (g : List D → M D) : List V → Hp → VK → Prop := fun xs H Q => ∃ S μ ds, RelS c μ S H ∧ RelDs c μ H ds xs ∧ ∃ d S', g ds S = .ok d S' ∧ Post c μ H d S' Q
def rMt (c : Cn) (g : D → List D → M D) : V → List V → Hp → VK → Prop := fun x xs H Q => ∃ S μ dx ds, RelS c μ S H ∧ RelD c μ H dx x ∧ RelDs c μ H ds xs ∧ ∃ d S', g dx ds S = .ok d S' ∧ Post c μ H d S' Q

theorem bind_ok {α β : Type} {m : M α} {f : α → M β} {S S' : Sto} {b : β} : (m >>= f) S = .ok b S' ↔ ∃ a S1, m S = .ok a S1 ∧ f a S1 = .ok b S' := by
  show M.bind m f S = _ ↔ _
  unfold M.bind
  constructor
  · intro h
    split at h
    · rename_i a S1 e; exact ⟨a, S1, e, h⟩
    · cases h
    · cases h
  · rintro ⟨a, S1, e, h⟩
    rw [e]; exact h
theorem pure_ok {α : Type} {a b : α} {S S' : Sto} : (pure a : M α) S = .ok b S' ↔ a = b ∧ S = S' := by
  show R.ok a S = _ ↔ _
  constructor
  · intro h; cases h; exact ⟨rfl, rfl⟩
  · rintro ⟨rfl, rfl⟩; rfl
theorem rd_ok {α : Type} {f : Sto → Option α} {b : α} {S S' : Sto} : rd f S = .ok b S' ↔ f S = some b ∧ S' = S := by
  unfold rd
  constructor
  · intro h
    split at h
    · cases h; exact ⟨by assumption, rfl⟩
    · cases h
  · rintro ⟨e, rfl⟩; rw [e]
theorem fail_ok {α : Type} {b : α} {S S' : Sto} : (fail : M α) S = .ok b S' ↔ False := ⟨fun h => (by cases h), False.elim⟩

section
variable {X : Cx} {c : Cn}
theorem pe_imp {e : Expr} {t t' : TE} (h : PE X e t) (i : ∀ σ H Q, t' σ H Q → t σ H Q) : PE X e t' := ⟨fun pins s σ H Q I q => h.run pins s σ H Q I (i σ H Q q)⟩
theorem pt_imp {e : Expr} {t t' : TT} (h : PT X e t) (i : ∀ σ H Q, t' σ H Q → t σ H Q) : PT X e t' := ⟨fun pins s σ H Q I q => h.run pins s σ H Q I (i σ H Q q)⟩
theorem pa_imp {e : List Expr} {t t' : TA} (h : PA X e t) (i : ∀ σ H Q, t' σ H Q → t σ H Q) : PA X e t' := ⟨fun pos pins s σ H Q I q => h.run pos pins s σ H Q I (i σ H Q q)⟩
theorem ps_imp {e : Stmt} {t t' : TS} (h : PS X e t) (i : ∀ D σ H, t' D σ H → t D σ H) : PS X e t' := ⟨fun pins s σ H D I q => h.run pins s σ H D I (i D σ H q)⟩
theorem pss_imp {e : List Stmt} {t t' : TS} (h : PSs X e t) (i : ∀ D σ H, t' D σ H → t D σ H) : PSs X e t' := ⟨fun pins s σ H D I q => h.run pins s σ H D I (i D σ H q)⟩
theorem pg_imp {e : Expr} {t t' : TG} (h : PG X e t) (i : ∀ v σ H Q, t' v σ H Q → t v σ H Q) : PG X e t' := ⟨fun pins s σ H v u Q I r q => h.run pins s σ H v u Q I r (i v σ H Q q)⟩
end

section
variable {c : Cn} {μ μ' : List Addr} {S S' : Sto} {H H' : Hp} {Q : VK} {d : D} {v : V}
theorem Post.now (p : Post c μ H d S Q) (r : RelS c μ S H) (q : RelD c μ H d v) : Q v H := p μ H v (Step.refl μ H) r q
theorem Post.after {μ1 : List Addr} {H1 : Hp} (p : Post c μ H d S' Q) (st : Step μ H μ1 H1) : Post c μ1 H1 d S' Q := fun μ' H' v s r q => p μ' H' v (st.trans s) r q
/-- a new object that is told by value -/
theorem Post.new (post : Post c μ H d S Q) (r : RelS c μ S H) {p : Addr} {ho : HO} (hp : H p = none) (q : RelD c μ (upd H p ho) d (.ref p)) : Q (.ref p) (upd H p ho) :=
  post μ _ _ (r.add hp).1 (r.add hp).2 q
theorem Post.newTup {xs : List D} {vs : List V} (post : Post c μ H (.tup xs) S Q) (r : RelS c μ S H) {p : Addr} (hp : H p = none) (q : RelDs c μ H xs vs) : Q (.ref p) (upd H p (.tup vs)) :=
  post.new r hp (.tup (.inl upd_same) (q.mono r (r.add hp).1))
theorem Post.newLst {xs : List D} {vs : List V} (post : Post c μ H (.lst xs) S Q) (r : RelS c μ S H) {p : Addr} (hp : H p = none) (q : RelDs c μ H xs vs) : Q (.ref p) (upd H p (.lst vs)) :=
  post.new r hp (.lst upd_same (r.fresh hp) (fun z => by obtain ⟨_, o, h⟩ := r.hh _ z; rw [hp] at h; cases h) (q.mono r (r.add hp).1))

theorem lstOf_rel (r : RelS c μ S H) (q : RelD c μ H d v) {xs : List D} (e : lstOf S d = some xs) : ∃ p vs, v = .ref p ∧ H p = some (.lst vs) ∧ RelDs c μ H xs vs := by
  cases d with
  | lst ys =>
    simp only [lstOf, Option.some.injEq] at e
    subst e
    cases q with
    | lst h n hh rs => exact ⟨_, _, rfl, h, rs⟩
  | hd n =>
    simp only [lstOf] at e
    split at e
    · rename_i ys hs
      cases e
      cases q with
      | hd hm =>
        obtain ⟨ho, h1, vs, e2, h2⟩ := r.obj hs hm
        subst e2
        exact ⟨_, vs, rfl, h1, h2⟩
    · cases e
  | _ => simp [lstOf] at e
theorem Scr.sqL {K : PySem.W.Frag} {a : Addr} {ns : List Int} (h : Scr K H a ns) : SqL K H a (ns.map V.int) := by
  rcases h with ⟨o, h⟩ | h
  · exact .inl (.inr ⟨o, h⟩)
  · exact .inr h
theorem seqOf_rel (r : RelS c μ S H) (q : RelD c μ H d v) {xs : List D} (e : seqOf S d = some xs) : ∃ p vs, v = .ref p ∧ (SqL c.K H p vs ∨ SqT c.K H p vs) ∧ RelDs c μ H xs vs := by
  cases d with
  | tup ys =>
    simp only [seqOf, Option.some.injEq] at e
    subst e
    cases q with
    | tup h rs => exact ⟨_, _, rfl, .inr h.sqT, rs⟩
  | lst ys =>
    obtain ⟨p, vs, h1, h2, h3⟩ := lstOf_rel r q (xs := xs) (by simpa [seqOf, lstOf] using e)
    exact ⟨p, vs, h1, .inl (SqL.of h2), h3⟩
  | hd n =>
    obtain ⟨p, vs, h1, h2, h3⟩ := lstOf_rel r q (xs := xs) (by simpa [seqOf, lstOf] using e)
    exact ⟨p, vs, h1, .inl (SqL.of h2), h3⟩
  | scr ns =>
    simp only [seqOf, Option.some.injEq] at e
    subst e
    cases q with
    | scr h => exact ⟨_, _, rfl, .inl h.sqL, RelDs.ints ns⟩
  | _ => simp [seqOf] at e
mutual
theorem toP_rel (g : Nat → Option PyData) (hg : ∀ n a p, μ[n]? = some a → g n = some p → Dp c.K H (.ref a) p) : ∀ (d : D) (v : V) (p : PyData), RelD c μ H d v → toP g d = some p → Dp c.K H v p
  | .non, _, _, .non, e => by simp only [toP, Option.some.injEq] at e; subst e; exact .non
  | .bl b, _, _, .bl _, e => by simp only [toP, Option.some.injEq] at e; subst e; exact .bl b
  | .int i, _, _, .int _, e => by simp only [toP, Option.some.injEq] at e; subst e; exact .int i
  | .str x, _, _, .str _, e => by simp only [toP, Option.some.injEq] at e; subst e; exact .str x
  | .tup xs, _, _, .tup h rs, e => by
    simp only [toP, Option.map_eq_some_iff] at e
    obtain ⟨ps, e1, rfl⟩ := e
    exact .tup h.sqT (toPs_rel g hg xs _ ps rs e1)
  | .lst xs, _, _, .lst h n hh rs, e => by
    simp only [toP, Option.map_eq_some_iff] at e
    obtain ⟨ps, e1, rfl⟩ := e
    exact .lst (SqL.of h) (toPs_rel g hg xs _ ps rs e1)
  | .hd n, _, p, .hd h, e => hg n _ p h (by simpa only [toP] using e)
  | .dk _, _, _, _, e => by simp [toP] at e
  | .scr _, _, _, _, e => by simp [toP] at e
theorem toPs_rel (g : Nat → Option PyData) (hg : ∀ n a p, μ[n]? = some a → g n = some p → Dp c.K H (.ref a) p) : ∀ (ds : List D) (vs : List V) (ps : List PyData), RelDs c μ H ds vs → toPs g ds = some ps → DpAll c.K H vs ps
  | [], _, _, .nil, e => by simp only [toPs, Option.some.injEq] at e; subst e; exact .nil
  | d :: ds, _, _, .cons h t, e => by
    simp only [toPs] at e
    split at e
    · rename_i p ps e1 e2
      cases e
      exact .cons (toP_rel g hg d _ p h e1) (toPs_rel g hg ds _ ps t e2)
    · cases e
end
theorem hdP_rel (r : RelS c μ S H) : ∀ (k n : Nat) (a : Addr) (p : PyData), μ[n]? = some a → hdP S k n = some p → Dp c.K H (.ref a) p
  | 0, _, _, _, _, e => by simp [hdP] at e
  | k + 1, n, a, p, hm, e => by
    simp only [hdP] at e
    split at e
    · rename_i xs hs
      simp only [Option.map_eq_some_iff] at e
      obtain ⟨ps, e1, rfl⟩ := e
      obtain ⟨ho, h1, vs, e2, h2⟩ := r.obj hs hm
      subst e2
      exact .lst (SqL.of h1) (toPs_rel _ (hdP_rel r k) xs vs ps h2 e1)
    · cases e
theorem datP_rel (r : RelS c μ S H) {p : PyData} (q : RelD c μ H d v) (e : datP S d = some p) : Dp c.K H v p := toP_rel _ (hdP_rel r 8) d v p q e

theorem truP_rel (r : RelS c μ S H) {k : Bool} (q : RelD c μ H d v) (e : truP S d = some k) : TruV c.K v H k := by
  have emp : ∀ {xs : List D} {vs : List V}, RelDs c μ H xs vs → (!xs.isEmpty) = !vs.isEmpty := fun h => by cases h <;> rfl
  have empk : ∀ {xs : List (Key × D)} {vs : List (Key × V)}, RelKs c μ H xs vs → (!xs.isEmpty) = !vs.isEmpty := fun h => by cases h <;> rfl
  cases q with
  | non => simp only [truP, Option.some.injEq] at e; exact e.symm
  | bl b => simp only [truP, Option.some.injEq] at e; exact e.symm
  | int i => simp only [truP, Option.some.injEq] at e; exact e.symm
  | str x =>
    simp only [truP] at e
    split at e
    · rename_i h
      cases e
      exact ⟨h, rfl⟩
    · cases e
  | tup h rs => simp only [truP, Option.some.injEq] at e; exact .inr (.inl ⟨_, h.sqT, by rw [← e, emp rs]⟩)
  | lst h n hh rs => simp only [truP, Option.some.injEq] at e; exact .inl ⟨_, SqL.of h, by rw [← e, emp rs]⟩
  | dk h n hh rs => simp only [truP, Option.some.injEq] at e; exact .inr (.inr ⟨_, h, by rw [← e, empk rs]⟩)
  | hd hm =>
    simp only [truP] at e
    split at e
    · rename_i xs hs
      cases e
      obtain ⟨ho, h1, vs, e2, h2⟩ := r.obj hs hm
      subst e2
      exact .inl ⟨_, SqL.of h1, by rw [emp h2]⟩
    · rename_i kvs hs
      cases e
      obtain ⟨ho, h1, vs, e2, h2⟩ := r.obj hs hm
      subst e2
      exact .inr (.inr ⟨_, h1, by rw [empk h2]⟩)
    · cases e
  | scr h =>
    rename_i ns
    simp only [truP, Option.some.injEq] at e
    refine .inl ⟨_, h.sqL, ?_⟩
    rw [← e]
    cases ns <;> rfl
theorem relKs_map : ∀ {ks : List (Key × D)} {vs : List (Key × V)}, RelKs c μ H ks vs → vs.map (·.1) = ks.map (·.1)
  | _, _, .nil => rfl
  | _, _, .cons h t => by simp [relKs_map t]
theorem relKs_len : ∀ {ks : List (Key × D)} {vs : List (Key × V)}, RelKs c μ H ks vs → ks.length = vs.length
  | _, _, .nil => rfl
  | _, _, .cons h t => by simp [relKs_len t]
theorem relKs_val {k : Key} : ∀ {ks : List (Key × D)} {vs : List (Key × V)}, RelKs c μ H ks vs → (∀ d, valD ks k = some d → ∃ v, valV vs k = some v ∧ RelD c μ H d v) ∧ (valD ks k = none → valV vs k = none)
  | _, _, .nil => ⟨fun d e => by simp [valD] at e, fun _ => rfl⟩
  | _, _, .cons (k := j) h t => by
    by_cases e : j = k
    · subst e
      refine ⟨fun d e1 => ?_, fun e1 => ?_⟩
      · rw [valV_pos rfl]
        simp [valD, List.find?_cons] at e1
        subst e1
        exact ⟨_, rfl, h⟩
      · simp [valD, List.find?_cons] at e1
    · rw [valV_neg e]
      have ih := relKs_val (k := k) t
      have e0 : ∀ (a : D) (l : List (Key × D)), valD ((j, a) :: l) k = valD l k := fun a l => by simp [valD, List.find?_cons, e]
      rw [e0]
      exact ih
theorem relKs_some {k : Key} {ks : List (Key × D)} {vs : List (Key × V)} (h : RelKs c μ H ks vs) : (valV vs k).isSome = (valD ks k).isSome := by
  have q := relKs_val (k := k) h
  cases e : valD ks k with
  | none => rw [q.2 e]; rfl
  | some d => obtain ⟨v, e1, _⟩ := q.1 d e; rw [e1]; rfl
theorem relKs_mapV {k : Key} {d : D} {v : V} (q : RelD c μ H d v) : ∀ {ks : List (Key × D)} {vs : List (Key × V)}, RelKs c μ H ks vs → RelKs c μ H (ks.map (fun kv => if kv.1 = k then (kv.1, d) else kv)) (vs.map (fun kv => if kv.1 = k then (kv.1, v) else kv))
  | _, _, .nil => .nil
  | _, _, .cons (k := j) h t => by
    rw [List.map_cons, List.map_cons]
    by_cases e : j = k
    · rw [if_pos e, if_pos e]; exact .cons q (relKs_mapV q t)
    · rw [if_neg e, if_neg e]; exact .cons h (relKs_mapV q t)
theorem relKs_app : ∀ {ks js : List (Key × D)} {vs us : List (Key × V)}, RelKs c μ H ks vs → RelKs c μ H js us → RelKs c μ H (ks ++ js) (vs ++ us)
  | _, _, _, _, .nil, s => s
  | _, _, _, _, .cons h t, s => .cons h (relKs_app t s)
theorem relKs_any {k : Key} : ∀ {ks : List (Key × D)} {vs : List (Key × V)}, RelKs c μ H ks vs → (ks.any fun kv => decide (kv.1 = k)) = vs.any fun kv => decide (kv.1 = k)
  | _, _, .nil => rfl
  | _, _, .cons h t => by simp [List.any_cons, relKs_any t]
theorem relKs_put {k : Key} {d : D} {v : V} (q : RelD c μ H d v) {ks : List (Key × D)} {vs : List (Key × V)} (h : RelKs c μ H ks vs) : RelKs c μ H (putD ks k d) (putK vs k v) := by
  unfold putD putK
  rw [relKs_any h]
  split
  · exact relKs_mapV q h
  · exact relKs_app h (.cons q .nil)
theorem relKs_merge : ∀ {js : List (Key × D)} {us : List (Key × V)} {ks : List (Key × D)} {vs : List (Key × V)}, RelKs c μ H js us → RelKs c μ H ks vs → RelKs c μ H (mergeD ks js) (mergeK vs us)
  | _, _, _, _, .nil, h => h
  | _, _, _, _, .cons (k := k) q t, h => by
    simp only [mergeD, mergeK, List.foldl_cons]
    exact relKs_merge t (relKs_put (k := k) q h)
end
end Mp
set_option Elab.async false
set_option linter.all false
set_option maxRecDepth 100000
set_option maxHeartbeats 1000000
namespace Mp
open PySem L2

abbrev cn (X : Cx) (ca : Nat → Addr) (ν : List Addr) : Cn := ⟨X.K, ca, ν⟩
def opOf : Op2 → Operator
  | .add => .Add | .sub => .Sub | .mul => .Mult | .fdiv => .FloorDiv | .mod => .Mod | .pow => .Pow
def copOf : Cop → CmpOp
  | .eq => .Eq | .ne => .NotEq | .lt => .Lt | .le => .LtE | .gt => .Gt | .ge => .GtE | .is_ => .Is | .isnot => .IsNot | .in_ => .In | .notin => .NotIn

theorem log2_small {j : Int} (h0 : 0 < j) (h : j < 2 ^ 64) : CDivW 0 j := by
  refine ⟨h0, ?_⟩
  have : j.natAbs < 2 ^ 64 := by omega
  have := (Nat.log2_lt (by omega)).mpr this
  omega

section
variable {X : Cx} {ca : Nat → Addr} {ν : List Addr}
theorem small_ok {i : Int} (h : small i = true) : -(2 ^ 64) < i ∧ i < 2 ^ 64 := by
  unfold small at h
  simpa using h
theorem cat_sound : OpR X (binaryOp .Add) (rOp (cn X ca ν) fun x y => do
    let zs ← rd fun S => catP S x y
    alloc (.lst zs)) := by
  intro pins s σ H x y v u Q I rx ry h
  obtain ⟨S, μ, dx, dy, r, qx, qy, d, S', hg, post⟩ := h
  obtain ⟨zs, S1, e1, e2⟩ := bind_ok.mp hg
  obtain ⟨e1, rfl⟩ := rd_ok.mp e1
  unfold alloc at e2
  cases e2
  unfold catP at e1
  split at e1
  · rename_i xs ys h1 h2
    split at e1
    · rename_i hs
      cases e1
      obtain ⟨p, vs, rfl, hp, rs⟩ := lstOf_rel r qx h1
      obtain ⟨q, us, rfl, hq, rs2⟩ := lstOf_rel r qy h2
      refine op_cat pins s σ H _ _ v u Q I rx ry ⟨_, _, _, _, rfl, rfl, hp, hq, ?_, fun l hl => ?_⟩
      · rw [← rs.length, ← rs2.length]; exact hs
      · have st := r.push (o := .lst (xs ++ ys)) (ho := .lst (vs ++ us)) hl ⟨_, rfl, rs.append rs2⟩
        refine post _ _ _ st.1 st.2 (.hd ?_)
        rw [← r.len]
        simp
    · cases e1
  · cases e1
theorem bin_sound (o : Op2) : OpR X (binaryOp (opOf o)) (rOp (cn X ca ν) fun x y => rd fun S => binP S o x y) := by
  intro pins s σ H x y v u Q I rx ry h
  obtain ⟨S, μ, dx, dy, r, qx, qy, d, S', hg, post⟩ := h
  obtain ⟨hg, rfl⟩ := rd_ok.mp hg
  unfold binP at hg
  split at hg
  · cases hg; cases qx; cases qy
    exact op_add pins s σ H _ _ v u Q I rx ry ⟨_, _, rfl, rfl, post.now r (.int _)⟩
  · cases hg; cases qx; cases qy
    exact op_sub pins s σ H _ _ v u Q I rx ry ⟨_, _, rfl, rfl, post.now r (.int _)⟩
  · split at hg
    · rename_i hs
      cases hg; cases qx; cases qy
      refine op_mul pins s σ H _ _ v u Q I rx ry ⟨_, _, rfl, rfl, ?_, post.now r (.int _)⟩
      rcases Bool.or_eq_true_iff.mp hs with hs | hs
      · exact .inl (small_ok hs)
      · exact .inr (small_ok hs)
    · cases hg
  · split at hg
    · rename_i hs
      cases hg; cases qx; cases qy
      exact op_fdivW pins s σ H _ _ v u Q I rx ry ⟨_, _, rfl, rfl, log2_small hs.1 hs.2, post.now r (.int _)⟩
    · split at hg
      · rename_i hs
        cases hg; cases qx; cases qy
        exact op_fdivN pins s σ H _ _ v u Q I rx ry ⟨_, _, rfl, rfl, hs, post.now r (.int _)⟩
      · cases hg
  · split at hg
    · rename_i hs
      cases hg; cases qx; cases qy
      exact op_mod pins s σ H _ _ v u Q I rx ry ⟨_, _, rfl, rfl, hs, post.now r (.int _)⟩
    · split at hg
      · rename_i hs
        cases hg; cases qx; cases qy
        exact op_modN pins s σ H _ _ v u Q I rx ry ⟨_, _, rfl, rfl, hs, post.now r (.int _)⟩
      · cases hg
  · split at hg
    · rename_i hs
      cases hg; cases qx; cases qy
      refine op_pow pins s σ H _ _ v u Q I rx ry ⟨_, _, rfl, rfl, ⟨hs.2.1, hs.2.2, ?_⟩, post.now r (.int _)⟩
      have := small_ok hs.1
      omega
    · cases hg
  · split at hg
    · rename_i hs
      cases hg; cases qx; cases qy
      exact op_add_str pins s σ H _ _ v u Q I rx ry ⟨_, _, rfl, rfl, hs, post.now r (.str _)⟩
    · cases hg
  · split at hg
    · rename_i xs ys hs
      cases hg
      cases qx with
      | tup hx rsx =>
        cases qy with
        | tup hy rsy =>
          refine op_catA pins s σ H _ _ v u Q I rx ry ⟨_, _, _, _, rfl, rfl, hx.sqT, hy.sqT, ?_, fun e => ?_, fun _ e => ?_, fun _ _ p hp => ?_⟩
          · rw [← rsx.length, ← rsy.length]; exact hs
          · subst e
            cases rsx
            exact post.now r (.tup hy rsy)
          · subst e
            cases rsy
            rw [List.append_nil] at post
            exact post.now r (.tup hx rsx)
          · exact post.newTup r hp (rsx.append rsy)
    · cases hg
  · rename_i h1 h2 h3
    split at hg
    · rename_i xs ys e1 e2
      split at hg
      · rename_i hs
        cases hg
        obtain ⟨p, vs, rfl, hp, rs⟩ := lstOf_rel r qx e1
        obtain ⟨q, us, rfl, hq, rs2⟩ := lstOf_rel r qy e2
        refine op_cat pins s σ H _ _ v u Q I rx ry ⟨_, _, _, _, rfl, rfl, hp, hq, ?_, fun l hl => post.newLst r hl (rs.append rs2)⟩
        rw [← rs.length, ← rs2.length]; exact hs
      · cases hg
    · cases hg
  · rename_i h1
    split at hg
    · rename_i xs e1
      split at hg
      · rename_i hs
        cases hg
        obtain ⟨p, vs, rfl, hp, rs⟩ := lstOf_rel r qx e1
        cases qy
        refine op_rep pins s σ H _ _ v u Q I rx ry ⟨_, _, _, rfl, rfl, hp, by omega, by omega, ?_, fun l hl => post.newLst r hl (rs.rep _)⟩
        rw [← rs.length]; exact hs.2.2
      · cases hg
    · cases hg
  · cases hg

theorem op_inT (hu : X.A.units + 65 < cLine) : OpR X (compareOp .In) (fun x y H Q => ∃ d ds, Dp X.K H x d ∧ Dp X.K H y (.tuple ds) ∧ SeqAt.shaped d = true ∧ SeqAt.shaped (.tuple ds) = true ∧ Q (.bl (ds.any fun z => PyData.eqv z d)) H) := by
  intro pins s σ H x y v u Q I rx ry h
  obtain ⟨d, ds, hd, he, sd, se, q⟩ := h
  obtain ⟨as, r1⟩ := Dp.reads I d x v hd rx
  obtain ⟨bs, r2⟩ := Dp.reads I (.tuple ds) y u he ry
  exact SeqAt.in_tuple_reads r2 r1 (SeqAt.canLay_of_shaped se) (SeqAt.canLay_of_shaped sd) (PyProof.Rows.room_in_shaped sd hu) ⟨.bl _, H, I, rfl, q⟩
theorem op_notInT (hu : X.A.units + 65 < cLine) : OpR X (compareOp .NotIn) (fun x y H Q => ∃ d ds, Dp X.K H x d ∧ Dp X.K H y (.tuple ds) ∧ SeqAt.shaped d = true ∧ SeqAt.shaped (.tuple ds) = true ∧ Q (.bl (!ds.any fun z => PyData.eqv z d)) H) := by
  intro pins s σ H x y v u Q I rx ry h
  obtain ⟨d, ds, hd, he, sd, se, q⟩ := h
  obtain ⟨as, r1⟩ := Dp.reads I d x v hd rx
  obtain ⟨bs, r2⟩ := Dp.reads I (.tuple ds) y u he ry
  exact SeqAt.notIn_tuple_reads r2 r1 (SeqAt.canLay_of_shaped se) (SeqAt.canLay_of_shaped sd) (PyProof.Rows.room_in_shaped sd hu) ⟨.bl _, H, I, rfl, q⟩

theorem keyOf_rel {c : Cn} {μ : List Addr} {H : Hp} {d : D} {v : V} {k : Key} (q : RelD c μ H d v) (e : keyOf d = some k) : v = kV k := by
  cases q <;> simp [keyOf] at e <;> subst e <;> rfl
theorem keysOf_rel {c : Cn} {μ : List Addr} {H : Hp} : ∀ {ds : List D} {vs : List V} {ks : List Key}, RelDs c μ H ds vs → keysOf ds = some ks → vs = ks.map kV
  | _, _, _, .nil, e => by simp [keysOf] at e; subst e; rfl
  | _, _, _, .cons h t, e => by
    simp only [keysOf] at e
    split at e
    · rename_i k ks e1 e2
      cases e
      rw [List.map_cons, keyOf_rel h e1, keysOf_rel t e2]
    · cases e
theorem keyT_tup {K : PySem.W.Frag} {H : Hp} {a : Addr} {xs : List D} {vs : List V} {k : List Key} (e : keyT xs = some k) (h : TupAt K H a xs vs) : keysOf xs = some k ∧ H a = some (.tup vs) := by
  unfold keyT at e
  split at e
  · rename_i ks e1
    split at e
    · cases e
    · rename_i hn
      cases e
      refine ⟨e1, ?_⟩
      rcases h with h | ⟨_, h⟩
      · exact h
      · exact absurd (h _ e1) hn
  · cases e
theorem pairT_val {c : Cn} {μ : List Addr} {H : Hp} {k : List Key} : ∀ {ks : List (List Key × D)} {vs : List (List Key × V)}, Paired (fun (p : List Key × D) (q : List Key × V) => p.1 = q.1 ∧ RelD c μ H p.2 q.2) ks vs →
    (∀ d, valD ks k = some d → ∃ v, valV vs k = some v ∧ RelD c μ H d v) ∧ (valD ks k = none → valV vs k = none)
  | _, _, .nil => ⟨fun d e => by simp [valD] at e, fun _ => rfl⟩
  | _, _, .cons (a := (j, d0)) (b := (j', v0)) ⟨e0, h⟩ t => by
    simp only at e0 h
    subst e0
    by_cases e : j = k
    · subst e
      refine ⟨fun d e1 => ?_, fun e1 => ?_⟩
      · rw [valV_pos rfl]
        simp [valD, List.find?_cons] at e1
        subst e1
        exact ⟨_, rfl, h⟩
      · simp [valD, List.find?_cons] at e1
    · rw [valV_neg e]
      have ih := pairT_val (k := k) t
      have e0 : ∀ (a : D) (l : List (List Key × D)), valD ((j, a) :: l) k = valD l k := fun a l => by simp [valD, List.find?_cons, e]
      rw [e0]
      exact ih
theorem pairT_some {c : Cn} {μ : List Addr} {H : Hp} {k : List Key} {ks : List (List Key × D)} {vs : List (List Key × V)} (h : Paired (fun (p : List Key × D) (q : List Key × V) => p.1 = q.1 ∧ RelD c μ H p.2 q.2) ks vs) : (valV vs k).isSome = (valD ks k).isSome := by
  have q := pairT_val (k := k) h
  cases e : valD ks k with
  | none => rw [q.2 e]; rfl
  | some d => obtain ⟨v, e1, _⟩ := q.1 d e; rw [e1]; rfl

def IsDk (S : Sto) : D → Prop
  | .dk _ => True
  | .hd n => (∃ kvs, S[n]? = some (.dk kvs)) ∨ ∃ kvs, S[n]? = some (.dt kvs)
  | _ => False
/-- what stands in a dict -/
theorem in_dget {c : Cn} {μ : List Addr} {S : Sto} {H : Hp} {a b : D} {x y : V} {k : Bool} (r : RelS c μ S H) (qx : RelD c μ H a x) (qy : RelD c μ H b y) (hd : IsDk S b)
    (e : cmpP.inP S a b = some k) : ∃ p o, y = .ref p ∧ DGet H p x o ∧ o.isSome = k := by
  cases b with
  | dk kvs =>
    simp only [cmpP.inP] at e
    split at e
    · rename_i j e1
      cases e
      cases qy with
      | dk h n hh rs => exact ⟨_, _, rfl, .inl ⟨_, j, .inl h, keyOf_rel qx e1, rfl⟩, relKs_some rs⟩
    · cases e
  | hd n =>
    cases qy with
    | hd hm =>
      rcases hd with ⟨kvs, hs⟩ | ⟨kvs, hs⟩
      · simp only [cmpP.inP, hs] at e
        split at e
        · rename_i j e1
          cases e
          obtain ⟨ho, h1, vs, e2, h2⟩ := r.obj hs hm
          subst e2
          exact ⟨_, _, rfl, .inl ⟨_, j, .inl h1, keyOf_rel qx e1, rfl⟩, relKs_some h2⟩
        · cases e
      · simp only [cmpP.inP, hs] at e
        split at e
        · rename_i xs
          split at e
          · rename_i j e1
            cases e
            obtain ⟨ho, h1, vs, e2, h2⟩ := r.obj hs hm
            subst e2
            cases qx with
            | tup ht rs =>
              obtain ⟨e3, ht⟩ := keyT_tup e1 ht
              exact ⟨_, _, rfl, .inr ⟨_, j, _, .inl h1, rfl, by rw [← keysOf_rel rs e3]; exact ht, rfl⟩, pairT_some h2⟩
          · cases e
        · cases e
  | _ => exact hd.elim

def rBl (c : Cn) (g : Sto → D → D → Option Bool) : R2 := rOp c fun x y => do
  let k ← rd fun S => g S x y
  pure (.bl k)
theorem rBl_open {c : Cn} {g : Sto → D → D → Option Bool} {x y : V} {H : Hp} {Q : VK} (h : rBl c g x y H Q) : ∃ S μ dx dy k, RelS c μ S H ∧ RelD c μ H dx x ∧ RelD c μ H dy y ∧ g S dx dy = some k ∧ Q (.bl k) H := by
  obtain ⟨S, μ, dx, dy, r, qx, qy, d, S', hg, post⟩ := h
  obtain ⟨k, S1, h1, h2⟩ := bind_ok.mp hg
  obtain ⟨e, rfl⟩ := rd_ok.mp h1
  obtain ⟨rfl, rfl⟩ := pure_ok.mp h2
  exact ⟨S1, μ, dx, dy, k, r, qx, qy, e, post.now r (.bl k)⟩
theorem deep_in (hu : X.A.units + 65 < cLine) {pins : List (Addr × Obj)} {s : Shared} {σ : St} {H : Hp} {x y : V} {v u : Value} {Q : VK} {S : Sto} {μ : List Addr} {a b : D} {k : Bool} (I : Inv X pins σ H s) (rx : RelV x v) (ry : RelV y u)
    (r : RelS (cn X ca ν) μ S H) (qx : RelD (cn X ca ν) μ H a x) (qy : RelD (cn X ca ν) μ H b y) (e : cmpP.deep S a b = some k) :
    (Q (.bl k) H → wpAny (model X.prog X.w) X.A (compareOp .In v u) (EP X pins σ Q) X.xe s) ∧ (Q (.bl (!k)) H → wpAny (model X.prog X.w) X.A (compareOp .NotIn v u) (EP X pins σ Q) X.xe s) := by
  unfold cmpP.deep at e
  split at e
  · rename_i p qs e1 e2
    split at e
    · rename_i hs
      cases e
      obtain ⟨h1, h2⟩ := Bool.and_eq_true_iff.mp hs
      exact ⟨fun q => op_inD hu pins s σ H _ _ v u Q I rx ry ⟨p, qs, datP_rel r qx e1, datP_rel r qy e2, h1, h2, q⟩, fun q => op_notInD hu pins s σ H _ _ v u Q I rx ry ⟨p, qs, datP_rel r qx e1, datP_rel r qy e2, h1, h2, q⟩⟩
    · cases e
  · rename_i p qs e1 e2
    split at e
    · rename_i hs
      cases e
      obtain ⟨h1, h2⟩ := Bool.and_eq_true_iff.mp hs
      exact ⟨fun q => op_inT hu pins s σ H _ _ v u Q I rx ry ⟨p, qs, datP_rel r qx e1, datP_rel r qy e2, h1, h2, q⟩, fun q => op_notInT hu pins s σ H _ _ v u Q I rx ry ⟨p, qs, datP_rel r qx e1, datP_rel r qy e2, h1, h2, q⟩⟩
    · cases e
  · cases e
theorem in_any (hu : X.A.units + 65 < cLine) {pins : List (Addr × Obj)} {s : Shared} {σ : St} {H : Hp} {x y : V} {v u : Value} {Q : VK} {S : Sto} {μ : List Addr} {a b : D} {k : Bool} (I : Inv X pins σ H s) (rx : RelV x v) (ry : RelV y u)
    (r : RelS (cn X ca ν) μ S H) (qx : RelD (cn X ca ν) μ H a x) (qy : RelD (cn X ca ν) μ H b y) (e : cmpP.inP S a b = some k) :
    (Q (.bl k) H → wpAny (model X.prog X.w) X.A (compareOp .In v u) (EP X pins σ Q) X.xe s) ∧ (Q (.bl (!k)) H → wpAny (model X.prog X.w) X.A (compareOp .NotIn v u) (EP X pins σ Q) X.xe s) := by
  have dict : IsDk S b →
      (Q (.bl k) H → wpAny (model X.prog X.w) X.A (compareOp .In v u) (EP X pins σ Q) X.xe s) ∧ (Q (.bl (!k)) H → wpAny (model X.prog X.w) X.A (compareOp .NotIn v u) (EP X pins σ Q) X.xe s) := fun hd => by
    obtain ⟨p, o, rfl, g, ho⟩ := in_dget (c := cn X ca ν) r qx qy hd e
    obtain rfl : u = Value.ref p := ry
    exact ⟨fun q => d_in (by omega) I g rx fun s3 I3 => ⟨.bl o.isSome, H, I3, rfl, by rw [ho]; exact q⟩, fun q => d_notIn (by omega) I g rx fun s3 I3 => ⟨.bl (!o.isSome), H, I3, rfl, by rw [ho]; exact q⟩⟩
  cases b with
  | dk kvs => exact dict True.intro
  | str y' =>
    simp only [cmpP.inP] at e
    split at e
    · cases e
      cases qx
      cases qy
      exact ⟨fun q => op_in_str pins s σ H _ _ v u Q I rx ry ⟨_, _, rfl, rfl, q⟩, fun q => op_notIn_str pins s σ H _ _ v u Q I rx ry ⟨_, _, rfl, rfl, q⟩⟩
    · cases e
  | hd n =>
    cases hs : S[n]? with
    | none => simp [cmpP.inP, hs] at e
    | some o =>
      cases o with
      | lst xs =>
        simp only [cmpP.inP, hs] at e
        exact deep_in hu I rx ry r qx qy e
      | dk kvs => exact dict (.inl ⟨_, hs⟩)
      | dt kvs => exact dict (.inr ⟨_, hs⟩)
      | ins C fs => simp [cmpP.inP, hs] at e
  | non => exact deep_in hu I rx ry r qx qy e
  | bl b => exact deep_in hu I rx ry r qx qy e
  | int i => exact deep_in hu I rx ry r qx qy e
  | tup xs => exact deep_in hu I rx ry r qx qy e
  | lst xs => exact deep_in hu I rx ry r qx qy e
  | scr ns => exact deep_in hu I rx ry r qx qy e
theorem eq_scal {x y : V} {a b : D} {μ : List Addr} {H : Hp} : True := trivial
theorem cmp_sound (hu : X.A.units + 65 < cLine) (o : Cop) : OpR X (compareOp (copOf o)) (rBl (cn X ca ν) fun S x y => cmpP S o x y) := by
  intro pins s σ H x y v u Q I rx ry h
  obtain ⟨S, μ, dx, dy, k, r, qx, qy, e, q⟩ := rBl_open h
  unfold cmpP at e
  split at e
  · cases e; cases qx; cases qy
    exact op_lt pins s σ H _ _ v u Q I rx ry ⟨_, _, rfl, rfl, q⟩
  · cases e; cases qx; cases qy
    exact op_le pins s σ H _ _ v u Q I rx ry ⟨_, _, rfl, rfl, q⟩
  · cases e; cases qx; cases qy
    exact op_gt pins s σ H _ _ v u Q I rx ry ⟨_, _, rfl, rfl, q⟩
  · cases e; cases qx; cases qy
    exact op_ge pins s σ H _ _ v u Q I rx ry ⟨_, _, rfl, rfl, q⟩
  · cases e; cases qx; cases qy
    exact op_lt_str pins s σ H _ _ v u Q I rx ry ⟨_, _, rfl, rfl, q⟩
  · cases e; cases qx; cases qy
    exact op_le_str pins s σ H _ _ v u Q I rx ry ⟨_, _, rfl, rfl, q⟩
  · cases e; cases qx; cases qy
    exact op_gt_str pins s σ H _ _ v u Q I rx ry ⟨_, _, rfl, rfl, q⟩
  · cases e; cases qx; cases qy
    exact op_ge_str pins s σ H _ _ v u Q I rx ry ⟨_, _, rfl, rfl, q⟩
  · cases e; cases qx; cases qy
    exact op_isN pins s σ H _ _ v u Q I rx ry ⟨rfl, q⟩
  · rename_i hne
    cases e; cases qy
    refine op_isN pins s σ H _ _ v u Q I rx ry ⟨rfl, ?_⟩
    have e1 : decide (x = V.non) = false := decide_eq_false (fun z => by subst z; cases qx; exact hne rfl)
    rw [e1]; exact q
  · cases e; cases qx; cases qy
    exact op_notN pins s σ H _ _ v u Q I rx ry ⟨rfl, q⟩
  · rename_i hne
    cases e; cases qy
    refine op_notN pins s σ H _ _ v u Q I rx ry ⟨rfl, ?_⟩
    have e1 : decide (x = V.non) = false := decide_eq_false (fun z => by subst z; cases qx; exact hne rfl)
    rw [e1]; exact q
  · cases e; cases qx; cases qy
    exact op_eq pins s σ H _ _ v u Q I rx ry ⟨rfl, by simpa using q⟩
  · cases e; cases qx; cases qy
    exact op_ne pins s σ H _ _ v u Q I rx ry ⟨rfl, by simpa using q⟩
  · cases e; cases qx; cases qy
    exact op_eq pins s σ H _ _ v u Q I rx ry ⟨rfl, by simpa using q⟩
  · cases e; cases qx; cases qy
    exact op_ne pins s σ H _ _ v u Q I rx ry ⟨rfl, by simpa using q⟩
  · cases e; cases qx; cases qy
    exact op_eq pins s σ H _ _ v u Q I rx ry ⟨rfl, by simpa using q⟩
  · cases e; cases qx; cases qy
    exact op_ne pins s σ H _ _ v u Q I rx ry ⟨rfl, by simpa using q⟩
  · split at e
    · rename_i p p' e1 e2
      split at e
      · rename_i hs
        cases e
        obtain ⟨h1, h2⟩ := Bool.and_eq_true_iff.mp hs
        exact op_eqD (by omega) pins s σ H _ _ v u Q I rx ry ⟨p, p', datP_rel r qx e1, datP_rel r qy e2, h1, h2, q⟩
      · cases e
    · cases e
  · split at e
    · rename_i p p' e1 e2
      split at e
      · rename_i hs
        cases e
        obtain ⟨h1, h2⟩ := Bool.and_eq_true_iff.mp hs
        exact op_neD (by omega) pins s σ H _ _ v u Q I rx ry ⟨p, p', datP_rel r qx e1, datP_rel r qy e2, h1, h2, q⟩
      · cases e
    · cases e
  · exact (in_any hu I rx ry r qx qy e).1 q
  · obtain ⟨k', e1, rfl⟩ := Option.map_eq_some_iff.mp e
    exact (in_any hu I rx ry r qx qy e1).2 q
  · cases e
end
end Mp
set_option Elab.async false
set_option linter.all false
set_option maxRecDepth 100000
set_option maxHeartbeats 1000000
namespace Mp
open PySem PySem.Spec PyProof.Rows L2

section
variable {X : Cx} {ca : Nat → Addr} {ν : List Addr}

theorem ixN_len {α β : Type} {xs : List α} {ys : List β} (h : xs.length = ys.length) (i : Int) : ixN xs.length i = ixN ys.length i := by rw [h]
theorem atI_rel {c : Cn} {μ : List Addr} {H : Hp} {xs : List D} {vs : List V} {i : Int} {d : D} (q : RelDs c μ H xs vs) (e : atI xs i = some d) : ∃ v, atI vs i = some v ∧ RelD c μ H d v := by
  unfold atI at e ⊢
  rw [← q.length]
  cases h : ixN xs.length i with
  | none => rw [h] at e; cases e
  | some j =>
    rw [h] at e
    obtain ⟨v, h1, h2⟩ := q.get (i := j) (d := d) e
    exact ⟨v, h1, h2⟩
theorem atI_map {α β : Type} (f : α → β) (xs : List α) (i : Int) : atI (xs.map f) i = (atI xs i).map f := by
  unfold atI
  rw [List.length_map]
  cases ixN xs.length i with
  | none => rfl
  | some j => simp

/-- what d[k] is -/
theorem val_dget {c : Cn} {μ : List Addr} {S : Sto} {H : Hp} {a b d : D} {x y : V} (r : RelS c μ S H) (qx : RelD c μ H a x) (qy : RelD c μ H b y) (hd : IsDk S a)
    (e : ixP S a b = some d) : ∃ p z, x = .ref p ∧ DGet H p y (some z) ∧ RelD c μ H d z := by
  cases a with
  | dk kvs =>
    simp only [ixP] at e
    split at e
    · rename_i j e1
      cases qx with
      | dk h n hh rs =>
        obtain ⟨z, h1, h2⟩ := (relKs_val rs).1 d e
        exact ⟨_, z, rfl, .inl ⟨_, j, .inl h, keyOf_rel qy e1, h1.symm⟩, h2⟩
    · cases e
  | hd n =>
    cases qx with
    | hd hm =>
      rcases hd with ⟨kvs, hs⟩ | ⟨kvs, hs⟩
      · simp only [ixP, hs] at e
        split at e
        · rename_i j e1
          obtain ⟨ho, h1, vs, e2, h2⟩ := r.obj hs hm
          subst e2
          obtain ⟨z, h3, h4⟩ := (relKs_val h2).1 d e
          exact ⟨_, z, rfl, .inl ⟨_, j, .inl h1, keyOf_rel qy e1, h3.symm⟩, h4⟩
        · cases e
      · cases b with
        | tup xs =>
          simp only [ixP, hs] at e
          split at e
          · rename_i j e1
            obtain ⟨ho, h1, vs, e2, h2⟩ := r.obj hs hm
            subst e2
            obtain ⟨z, h3, h4⟩ := (pairT_val (c := c) h2).1 d e
            cases qy with
            | tup ht rs =>
              obtain ⟨e3, ht⟩ := keyT_tup e1 ht
              exact ⟨_, z, rfl, .inr ⟨_, j, _, .inl h1, rfl, by rw [← keysOf_rel rs e3]; exact ht, h3.symm⟩, h4⟩
          · cases e
        | _ => simp [ixP, hs] at e
  | _ => exact hd.elim
theorem ix_sound (hu : X.A.units + 65 < cLine) : IxR X (rOp (cn X ca ν) fun x y => rd fun S => ixP S x y) := by
  intro value slice pins s σ H x y v u Q I rx ry h hs
  obtain ⟨S, μ, dx, dy, r, qx, qy, d, S', hg, post⟩ := h
  obtain ⟨e, rfl⟩ := rd_ok.mp hg
  have lst : ∀ (p : Addr) (xs : List D) (vs : List V) (i : Int), x = .ref p → dy = .int i → SqL X.K H p vs → RelDs (cn X ca ν) μ H xs vs → atI xs i = some d → wpAny (model X.prog X.w) X.A (subscriptTail value slice v u) (EP X pins σ Q) X.xe s :=
    fun p xs vs i ex ey hq rs e' => by
      subst ex ey
      obtain ⟨z, e1, qz⟩ := atI_rel rs e'
      cases qy
      exact ix_list value slice pins s σ H _ _ v u Q I rx ry ⟨p, vs, i, z, rfl, rfl, hq, e1, post.now r qz⟩ hs
  have dict : IsDk S' dx → wpAny (model X.prog X.w) X.A (subscriptTail value slice v u) (EP X pins σ Q) X.xe s := fun hd => by
    obtain ⟨p, z, rfl, g, qz⟩ := val_dget (c := cn X ca ν) r qx qy hd e
    obtain rfl : v = Value.ref p := rx
    exact PyProof.Rows.tail_any (dict_typeIs I g) PySem.F.slot_dict_getitem.lookup (d_getItem (by omega) I g ry fun w' s3 I3 rw' => ⟨z, H, I3, rw', post.now r qz⟩) hs
  cases dx with
  | tup xs =>
    cases qx with
    | tup h rs =>
      cases dy with
      | int i =>
        have e : atI xs i = some d := e
        obtain ⟨z, e1, qz⟩ := atI_rel rs e
        cases qy
        exact ix_tup value slice pins s σ H _ _ v u Q I rx ry ⟨_, _, i, z, rfl, rfl, h.sqT, e1, post.now r qz⟩ hs
      | _ => simp [ixP] at e
  | lst xs =>
    cases qx with
    | lst h n hh rs =>
      cases dy with
      | int i =>
        simp only [ixP] at e
        exact lst _ xs _ i rfl rfl (SqL.of h) rs e
      | _ => simp [ixP] at e
  | scr ns =>
    cases qx with
    | scr h =>
      cases dy with
      | int i =>
        simp only [ixP, ← atI_map] at e
        exact lst _ (ns.map D.int) _ i rfl rfl h.sqL (RelDs.ints ns) e
      | _ => simp [ixP] at e
  | str z =>
    cases dy with
    | int i =>
      simp only [ixP] at e
      split at e
      · rename_i hz
        obtain ⟨ch, e1, rfl⟩ := Option.map_eq_some_iff.mp e
        cases qx; cases qy
        exact ix_str value slice pins s σ H _ _ v u Q I rx ry ⟨z, i, ch, rfl, rfl, hz, e1, post.now r (.str _)⟩ hs
      · cases e
    | _ => simp [ixP] at e
  | dk kvs => exact dict True.intro
  | hd n =>
    cases hn : S'[n]? with
    | none => simp [ixP, hn] at e
    | some o =>
      cases o with
      | lst xs =>
        cases dy with
        | int i =>
          simp only [ixP, hn] at e
          cases qx with
          | hd hm =>
            obtain ⟨ho, h1, vs, e2, h2⟩ := r.obj hn hm
            subst e2
            exact lst _ xs vs i rfl rfl (SqL.of h1) h2 e
        | _ => simp [ixP, hn] at e
      | dk kvs => exact dict (.inl ⟨_, hn⟩)
      | dt kvs => exact dict (.inr ⟨_, hn⟩)
      | ins C fs => simp [ixP, hn] at e
  | _ => simp [ixP] at e

theorem cutL_rel {c : Cn} {μ : List Addr} {H : Hp} {xs : List D} {vs : List V} (q : RelDs c μ H xs vs) (lo hi : Option Int) : RelDs c μ H (cutL xs lo hi) (cutV vs lo hi) := by
  unfold cutL cutV
  rw [q.length]
  exact (q.drop _).take _
theorem cutL_map {α β : Type} (f : α → β) (xs : List α) (lo hi : Option Int) : (cutL xs lo hi).map f = cutL (xs.map f) lo hi := by
  unfold cutL
  rw [List.length_map, List.map_take, List.map_drop]
theorem cutL_whole {α : Type} {xs : List α} {lo hi : Option Int} (h : HT.sIx xs.length 0 lo = 0 ∧ HT.sIx xs.length xs.length hi = xs.length) : cutL xs lo hi = xs := by
  unfold cutL
  rw [h.1, h.2]; simp
def rSl (c : Cn) : V → Option Int → Option Int → Hp → VK → Prop := fun x lo hi H Q => ∃ S μ dx, RelS c μ S H ∧ RelD c μ H dx x ∧ ∃ d, slP S dx lo hi = some d ∧ Post c μ H d S Q
theorem sl_sound : SlR X (rSl (cn X ca ν)) := by
  intro pins s σ H x v vl vu lo hi sl Q I rx hs pl pu h
  obtain ⟨S, μ, dx, r, qx, d, e, post⟩ := h
  have lst : ∀ (p : Addr) (xs : List D) (vs : List V), x = .ref p → SqL X.K H p vs → RelDs (cn X ca ν) μ H xs vs → d = .lst (cutL xs lo hi) → ∃ T id, typeLookup (.type T) "__getitem__" = pure (some (.builtin id)) ∧ s.TypeIs v T ∧ wpAny (model X.prog X.w) X.A (getItem v (.ref sl)) (EP X pins σ Q) X.xe s :=
    fun p xs vs ex hq rs ed => by
      subst ex ed
      exact sl_list pins s σ H _ v vl vu lo hi sl Q I rx hs pl pu ⟨p, vs, rfl, hq, fun l hl => post.newLst r hl (cutL_rel rs lo hi)⟩
  cases dx with
  | tup xs =>
    simp only [slP, Option.some.injEq] at e
    subst e
    cases qx with
    | tup h rs =>
      refine sl_tupA pins s σ H _ v vl vu lo hi sl Q I rx hs pl pu ⟨_, _, rfl, h.sqT, fun hw => ?_, fun _ p hp => post.newTup r hp (cutL_rel rs lo hi)⟩
      rw [cutL_whole (by rw [rs.length]; exact hw)] at post
      exact post.now r (.tup h rs)
  | lst xs =>
    simp only [slP, Option.some.injEq] at e
    cases qx with
    | lst h n hh rs => exact lst _ xs _ rfl (SqL.of h) rs e.symm
  | scr ns =>
    simp only [slP, Option.some.injEq] at e
    cases qx with
    | scr h => exact lst _ (ns.map D.int) _ rfl h.sqL (RelDs.ints ns) (by rw [← e, cutL_map])
  | str z =>
    simp only [slP] at e
    split at e
    · rename_i hz
      cases e
      cases qx
      exact sl_str pins s σ H _ v vl vu lo hi sl Q I rx hs pl pu ⟨z, rfl, hz, post.now r (.str _)⟩
    · cases e
  | hd n =>
    simp only [slP] at e
    split at e
    · rename_i xs hn
      cases e
      cases qx with
      | hd hm =>
        obtain ⟨ho, h1, vs, e2, h2⟩ := r.obj hn hm
        subst e2
        exact lst _ xs vs rfl (SqL.of h1) h2 rfl
    · cases e
  | _ => simp [slP] at e

/-! ### stores -/
def PostS (c : Cn) (μ : List Addr) (H : Hp) (S' : Sto) (Q : Hp → Prop) : Prop := ∀ H', Step μ H μ H' → RelS c μ S' H' → Q H'
def rSet (c : Cn) : TSet := fun o i v H Q => ∃ S μ a b d, RelS c μ S H ∧ RelD c μ H a o ∧ RelD c μ H b i ∧ RelD c μ H d v ∧ ∃ S', setP S a b d = some S' ∧ PostS c μ H S' Q
theorem pairT_put {c : Cn} {μ : List Addr} {H : Hp} {k : List Key} {d : D} {v : V} (q : RelD c μ H d v) : ∀ {ks : List (List Key × D)} {vs : List (List Key × V)}, Paired (fun (p : List Key × D) (q : List Key × V) => p.1 = q.1 ∧ RelD c μ H p.2 q.2) ks vs →
    Paired (fun (p : List Key × D) (q : List Key × V) => p.1 = q.1 ∧ RelD c μ H p.2 q.2) (putD ks k d) (putK vs k v) := by
  have any : ∀ {ks : List (List Key × D)} {vs : List (List Key × V)}, Paired (fun (p : List Key × D) (q : List Key × V) => p.1 = q.1 ∧ RelD c μ H p.2 q.2) ks vs → (ks.any fun kv => decide (kv.1 = k)) = vs.any fun kv => decide (kv.1 = k) := by
    intro ks vs h
    induction h with
    | nil => rfl
    | cons h t ih => simp only [List.any_cons, ih, h.1]
  have mapv : ∀ {ks : List (List Key × D)} {vs : List (List Key × V)}, Paired (fun (p : List Key × D) (q : List Key × V) => p.1 = q.1 ∧ RelD c μ H p.2 q.2) ks vs →
      Paired (fun (p : List Key × D) (q : List Key × V) => p.1 = q.1 ∧ RelD c μ H p.2 q.2) (ks.map (fun kv => if kv.1 = k then (kv.1, d) else kv)) (vs.map (fun kv => if kv.1 = k then (kv.1, v) else kv)) := by
    intro ks vs h
    induction h with
    | nil => exact .nil
    | @cons a b _ _ h t ih =>
      refine .cons ?_ ih
      show (if a.1 = k then (a.1, d) else a).1 = (if b.1 = k then (b.1, v) else b).1 ∧ RelD c μ H (if a.1 = k then (a.1, d) else a).2 (if b.1 = k then (b.1, v) else b).2
      by_cases e : a.1 = k
      · rw [if_pos e, if_pos (h.1 ▸ e)]; exact ⟨h.1, q⟩
      · rw [if_neg e, if_neg (h.1 ▸ e)]; exact h
  have app : ∀ {ks : List (List Key × D)} {vs : List (List Key × V)}, Paired (fun (p : List Key × D) (q : List Key × V) => p.1 = q.1 ∧ RelD c μ H p.2 q.2) ks vs →
      Paired (fun (p : List Key × D) (q : List Key × V) => p.1 = q.1 ∧ RelD c μ H p.2 q.2) (ks ++ [(k, d)]) (vs ++ [(k, v)]) := by
    intro ks vs h
    induction h with
    | nil => exact .cons ⟨rfl, q⟩ .nil
    | cons h t ih => exact .cons h ih
  intro ks vs h
  unfold putD putK
  rw [any h]
  split
  · exact mapv h
  · exact app h
theorem paired_len {α β : Type} {F : α → β → Prop} {xs : List α} {ys : List β} (h : Paired F xs ys) : xs.length = ys.length := by
  induction h with
  | nil => rfl
  | cons _ _ ih => simp [ih]
theorem set_sound (hu : X.A.units + 65 < cLine) : PSet X (rSet (cn X ca ν)) := by
  intro pins s σ H o i v ov iv u Q I ro ri rv h
  obtain ⟨S, μ, a, b, d, r, qa, qb, qd, S', e, post⟩ := h
  cases a with
  | hd n =>
    cases qa with
    | hd hm =>
      cases hn : S[n]? with
      | none => simp [setP, hn] at e
      | some ob =>
        obtain ⟨ho, h1, h2⟩ := r.obj hn hm
        cases ob with
        | lst xs =>
          obtain ⟨vs, e2, h2⟩ := h2
          subst e2
          simp only [setP, hn] at e
          split at e
          · rename_i k
            split at e
            · rename_i j hj
              cases e
              cases qb
              have st := r.set hm (o := .lst (xs.set j d)) (ho := .lst (vs.set j v)) ⟨_, rfl, RelDs.set qd j h2⟩
              exact set_list pins s σ H _ _ v ov iv u Q I ro ri rv ⟨_, vs, k, j, rfl, rfl, h1, by rw [← h2.length]; exact hj, post _ st.1 st.2⟩
            · cases e
          · cases e
        | dk kvs =>
          obtain ⟨vs, e2, h2⟩ := h2
          subst e2
          simp only [setP, hn] at e
          split at e
          · rename_i k ek
            split at e
            · rename_i hl
              cases e
              have st := r.set hm (o := .dk (putD kvs k d)) (ho := .dK (putK vs k v)) ⟨_, rfl, relKs_put qd h2⟩
              obtain rfl : ov = Value.ref _ := ro
              exact d_setItem (by omega) I (.inl ⟨vs, k, h1, keyOf_rel (c := cn X ca ν) qb ek, by rw [← relKs_len h2]; exact hl, rfl⟩) ri rv fun s' I' => ⟨_, I', post _ st.1 st.2⟩
            · cases e
          · cases e
        | dt kvs =>
          obtain ⟨vs, e2, h2⟩ := h2
          subst e2
          simp only [setP, hn] at e
          split at e
          · rename_i xs
            split at e
            · rename_i k ek
              split at e
              · rename_i hl
                cases e
                have st := r.set hm (o := .dt (putD kvs k d)) (ho := .dT (putK vs k v)) ⟨_, rfl, pairT_put (c := cn X ca ν) qd h2⟩
                obtain rfl : ov = Value.ref _ := ro
                cases qb with
                | tup ht rs =>
                  obtain ⟨e3, ht⟩ := keyT_tup ek ht
                  exact d_setItem (by omega) I (.inr ⟨vs, k, _, h1, rfl, by rw [← keysOf_rel (c := cn X ca ν) rs e3]; exact ht, by rw [← paired_len h2]; exact hl, rfl⟩) ri rv fun s' I' => ⟨_, I', post _ st.1 st.2⟩
              · cases e
            · cases e
          · cases e
        | ins C fs => simp [setP, hn] at e
  | _ => simp [setP] at e

/-! ### fields -/
theorem ins_look {c : Cn} {μ : List Addr} {H : Hp} {f : Str} {d : D} : ∀ {fs : List (Str × D)} {vs : List (Str × V)}, Paired (fun (p : Str × D) (q : Str × V) => p.1 = q.1 ∧ RelD c μ H p.2 q.2) fs vs →
    (∀ d, fs.lookup f = some d → ∃ v, vs.lookup f = some v ∧ RelD c μ H d v) ∧ (fs.lookup f = none → vs.lookup f = none)
  | _, _, .nil => ⟨fun d e => by simp at e, fun _ => rfl⟩
  | _, _, .cons (a := (g, d0)) (b := (g', v0)) ⟨e0, h⟩ t => by
    simp only at e0 h
    subst e0
    have ih := ins_look (f := f) (d := d) t
    simp only [List.lookup_cons]
    by_cases e : (f == g) = true
    · simp only [e]
      exact ⟨fun d e => by cases e; exact ⟨_, rfl, h⟩, fun e => by cases e⟩
    · have e' : (f == g) = false := by simpa using e
      simp only [e']
      exact ih
theorem putF_rel {c : Cn} {μ : List Addr} {H : Hp} {f : Str} {d : D} {v : V} (q : RelD c μ H d v) : ∀ {fs : List (Str × D)} {vs : List (Str × V)}, Paired (fun (p : Str × D) (q : Str × V) => p.1 = q.1 ∧ RelD c μ H p.2 q.2) fs vs →
    Paired (fun (p : Str × D) (q : Str × V) => p.1 = q.1 ∧ RelD c μ H p.2 q.2) (putFD f d fs) (putF f v vs)
  | _, _, .nil => .cons ⟨rfl, q⟩ .nil
  | _, _, .cons (a := (g, d0)) (b := (g', v0)) ⟨e0, h⟩ t => by
    simp only at e0 h
    subst e0
    unfold putFD putF
    by_cases e : g = f
    · rw [if_pos e, if_pos e]; exact .cons ⟨rfl, q⟩ t
    · rw [if_neg e, if_neg e]; exact .cons ⟨rfl, h⟩ (putF_rel q t)
/-- what the program's classes are: each has these names for its fields -/
structure ClsOk (K : PySem.W.Frag) (C : Addr) (flds : List Str) : Prop where
  cl : Cls K C
  no : ∀ f ∈ flds, NoAttr K C f
def gFldS (K : PySem.W.Frag) (to : TE) (f : Str) : TG := fun v σ H Q => to σ H fun x H1 => ∃ a C dx fs, x = .ref a ∧ H1 a = some (.ins C dx fs) ∧ Cls K C ∧ NoAttr K C f ∧ fs.length < 1000 ∧ Q σ (upd H1 a (.ins C dx (putF f v fs)))
theorem pg_fldS {o : Expr} {f : Str} {to : TE} {pos : Pos} (ho : PE X o to) : PG X (.Attribute o f pos) (gFldS X.K to f) := by
  refine ⟨fun pins s σ H v u Q I r h => ?_⟩
  rw [assign_Attribute]
  refine wpAny_bind (wpAny_holding (thn (ho.run pins s σ H _ I h) fun ov s1 ⟨x, H1, I1, r1, a, C, dx, fs, ex, ea, c, n, l, q1⟩ => ?_))
  subst ex
  obtain rfl : ov = Value.ref a := r1
  refine wpAny_bind (wpAny_standAt (wpAny_bind (wpAny_holding (setattr_ok I1 ea c n l r fun s3 I3 => ?_))))
  exact wpAny_release ⟨σ, _, I3, q1⟩
end
end Mp
set_option Elab.async false
set_option linter.all false
set_option maxRecDepth 100000
set_option maxHeartbeats 1000000
namespace Mp
open PySem PySem.Spec PyProof.Rows L2

theorem intsOf_eq : ∀ {ds : List D} {ns : List Int}, intsOf ds = some ns → ds = ns.map D.int
  | [], _, e => by simp [intsOf] at e; subst e; rfl
  | d :: r, _, e => by
    cases d with
    | int i =>
      simp only [intsOf, Option.map_eq_some_iff] at e
      obtain ⟨ms, e1, rfl⟩ := e
      rw [List.map_cons, intsOf_eq e1]
    | _ => simp [intsOf] at e
theorem strsOf_eq : ∀ {ds : List D} {ns : List Str}, strsOf ds = some ns → ds = ns.map D.str
  | [], _, e => by simp [strsOf] at e; subst e; rfl
  | d :: r, _, e => by
    cases d with
    | str i =>
      simp only [strsOf, Option.map_eq_some_iff] at e
      obtain ⟨ms, e1, rfl⟩ := e
      rw [List.map_cons, strsOf_eq e1]
    | _ => simp [strsOf] at e
theorem blsOf_eq : ∀ {ds : List D} {ns : List Bool}, blsOf ds = some ns → ds = ns.map D.bl
  | [], _, e => by simp [blsOf] at e; subst e; rfl
  | d :: r, _, e => by
    cases d with
    | bl i =>
      simp only [blsOf, Option.map_eq_some_iff] at e
      obtain ⟨ms, e1, rfl⟩ := e
      rw [List.map_cons, blsOf_eq e1]
    | _ => simp [blsOf] at e
section
variable {c : Cn} {μ : List Addr} {H : Hp}
theorem rel_ints : ∀ {ns : List Int} {vs : List V}, RelDs c μ H (ns.map D.int) vs → vs = ns.map V.int
  | [], _, .nil => rfl
  | _ :: r, _, .cons (.int _) t => by rw [rel_ints t]; rfl
theorem rel_strs : ∀ {ns : List Str} {vs : List V}, RelDs c μ H (ns.map D.str) vs → vs = ns.map V.str
  | [], _, .nil => rfl
  | _ :: r, _, .cons (.str _) t => by rw [rel_strs t]; rfl
theorem rel_bls : ∀ {ns : List Bool} {vs : List V}, RelDs c μ H (ns.map D.bl) vs → vs = ns.map V.bl
  | [], _, .nil => rfl
  | _ :: r, _, .cons (.bl _) t => by rw [rel_bls t]; rfl
theorem strs_rel : ∀ (ns : List Str), RelDs c μ H (ns.map D.str) (ns.map V.str)
  | [] => .nil
  | _ :: r => .cons (.str _) (strs_rel r)
end

/-! ### sorted rows are one -/
theorem sortI_uniq {ns ms : List Int} (p : ms.Perm ns) (h : ms.Pairwise (· ≤ ·)) : ms = sortI ns := by
  have h1 : (sortI ns).Pairwise (· ≤ ·) := by
    have := List.pairwise_mergeSort (le := fun a b : Int => decide (a ≤ b)) (fun a b c => by simp; omega) (fun a b => by simp; omega) ns
    exact this.imp (by intro a b h; simpa using h)
  exact (p.trans (List.mergeSort_perm ns _).symm).eq_of_pairwise (le := fun a b => a ≤ b) (fun a b _ _ h1 h2 => Int.le_antisymm h1 h2) h h1
theorem lex_total (a b : List Nat) : ¬ a < b → ¬ b < a → a = b := fun h1 h2 => List.le_antisymm (List.not_lt.mp h2) (List.not_lt.mp h1)
theorem str_ext {x y : Str} (h : x.cps.toList = y.cps.toList) : x = y := by
  cases x; cases y; simp only at h; congr; exact Array.toList_inj.mp h
theorem ltStr_def (x y : Str) : ltStr x y = decide (x.cps.toList < y.cps.toList) := rfl
theorem le_trans_str {x y z : Str} (h1 : (!ltStr y x) = true) (h2 : (!ltStr z y) = true) : (!ltStr z x) = true := by
  simp only [ltStr_def, Bool.not_eq_true', decide_eq_false_iff_not, List.not_lt] at *
  exact List.le_trans h1 h2
theorem risingS_pair : ∀ {ys : List Str} {p : Str}, risingS p ys = true → (p :: ys).Pairwise fun a b => (!ltStr b a) = true
  | [], p, _ => by simp
  | x :: r, p, h => by
    have h : (!decide (x.cps.toList < p.cps.toList) && risingS x r) = true := by rw [← ltCps_eq]; exact h
    obtain ⟨h1, h2⟩ := Bool.and_eq_true_iff.mp h
    have ih := risingS_pair h2
    refine List.pairwise_cons.mpr ⟨fun y hy => ?_, ih⟩
    rcases List.mem_cons.mp hy with e | hy
    · subst e; exact h1
    · exact le_trans_str h1 ((List.pairwise_cons.mp ih).1 y hy)
theorem sortedS_pair : ∀ {ys : List Str}, sortedS ys = true → ys.Pairwise fun a b => (!ltStr b a) = true
  | [], _ => .nil
  | x :: r, h => risingS_pair h
theorem sortT_uniq {ns ms : List Str} (p : ms.Perm ns) (h : sortedS ms = true) : ms = sortT ns := by
  have h1 : (sortT ns).Pairwise fun a b => (!ltStr b a) = true := by
    have := List.pairwise_mergeSort (le := fun a b : Str => !ltStr b a) (fun a b c h1 h2 => le_trans_str h1 h2) (fun a b => by
      simp only [ltStr_def, Bool.or_eq_true, Bool.not_eq_true', decide_eq_false_iff_not, List.not_lt]
      exact List.le_total _ _) ns
    exact this
  refine (p.trans (List.mergeSort_perm ns _).symm).eq_of_pairwise (le := fun a b => (!ltStr b a) = true) (fun a b _ _ h1 h2 => ?_) (sortedS_pair h) h1
  simp only [ltStr_def, Bool.not_eq_true', decide_eq_false_iff_not] at h1 h2
  exact str_ext (lex_total _ _ h2 h1)

/-! ### built-in functions -/
def biVal : Bi → Value
  | .len => .builtin "len" | .int => .type "int" | .bool => .type "bool" | .str => .type "str" | .abs => .builtin "abs"
  | .max2 => .builtin "max" | .min2 => .builtin "min" | .max1 => .builtin "max" | .min1 => .builtin "min" | .sum => .builtin "sum" | .all => .builtin "all" | .any => .builtin "any" | .tuple => .type "tuple"
theorem foldMax_spec : ∀ (ns : List Int) (m : Int), (foldMax m ns = m ∨ foldMax m ns ∈ ns) ∧ m ≤ foldMax m ns ∧ ∀ y ∈ ns, y ≤ foldMax m ns
  | [], m => ⟨.inl rfl, Int.le_refl m, fun y h => by simp at h⟩
  | x :: r, m => by
    have ih := foldMax_spec r (if m < x then x else m)
    simp only [foldMax]
    generalize foldMax (if m < x then x else m) r = z at ih ⊢
    obtain ⟨h1, h2, h3⟩ := ih
    refine ⟨?_, ?_, fun y hy => ?_⟩
    · rcases h1 with h1 | h1
      · split at h1
        · exact .inr (by rw [h1]; exact List.mem_cons_self)
        · exact .inl h1
      · exact .inr (List.mem_cons_of_mem _ h1)
    · split at h2 <;> omega
    · rcases List.mem_cons.mp hy with e | hy
      · subst e; split at h2 <;> omega
      · exact h3 y hy
theorem foldMin_spec : ∀ (ns : List Int) (m : Int), (foldMin m ns = m ∨ foldMin m ns ∈ ns) ∧ foldMin m ns ≤ m ∧ ∀ y ∈ ns, foldMin m ns ≤ y
  | [], m => ⟨.inl rfl, Int.le_refl m, fun y h => by simp at h⟩
  | x :: r, m => by
    have ih := foldMin_spec r (if x < m then x else m)
    simp only [foldMin]
    generalize foldMin (if x < m then x else m) r = z at ih ⊢
    obtain ⟨h1, h2, h3⟩ := ih
    refine ⟨?_, ?_, fun y hy => ?_⟩
    · rcases h1 with h1 | h1
      · split at h1
        · exact .inr (by rw [h1]; exact List.mem_cons_self)
        · exact .inl h1
      · exact .inr (List.mem_cons_of_mem _ h1)
    · split at h2 <;> omega
    · rcases List.mem_cons.mp hy with e | hy
      · subst e; split at h2 <;> omega
      · exact h3 y hy
section
variable {X : Cx} {ca : Nat → Addr} {ν : List Addr}
theorem len_ok {pins : List (Addr × Obj)} {s : Shared} {σ : L2.St} {H : Hp} {x : V} {us : List Value} {Q : VK} {S : Sto} {μ : List Addr} {d : D} {n : Nat} (I : Inv X pins σ H s) (ru : Vals [x] us)
    (r : RelS (cn X ca ν) μ S H) (q : RelD (cn X ca ν) μ H d x) (e : lenP S d = some n) (h : Q (.int n) H) : wpAny (model X.prog X.w) X.A (call (.builtin "len") us) (EP X pins σ Q) X.xe s := by
  cases d with
  | str z =>
    simp only [lenP] at e
    split at e
    · rename_i hz
      cases e
      cases q
      exact call_len_str pins s σ H _ us Q I ru ⟨z, rfl, hz, h⟩
    · cases e
  | dk kvs =>
    simp only [lenP, Option.some.injEq] at e
    subst e
    cases q with
    | dk h1 n hh rs => exact call_lenD pins s σ H _ us Q I ru ⟨_, _, rfl, h1, by rw [← relKs_len rs]; exact h⟩
  | hd n =>
    cases q with
    | hd hm =>
      simp only [lenP] at e
      split at e
      · rename_i xs hn
        cases e
        obtain ⟨ho, h1, vs, e2, h2⟩ := r.obj hn hm
        subst e2
        exact call_len_seq pins s σ H _ us Q I ru ⟨_, vs, rfl, .inl (SqL.of h1), by rw [← h2.length]; exact h⟩
      · rename_i kvs hn
        cases e
        obtain ⟨ho, h1, vs, e2, h2⟩ := r.obj hn hm
        subst e2
        exact call_lenD pins s σ H _ us Q I ru ⟨_, vs, rfl, h1, by rw [← relKs_len h2]; exact h⟩
      · cases e
  | tup xs =>
    simp only [lenP, Option.some.injEq] at e
    subst e
    cases q with
    | tup h1 rs => exact call_len_seq pins s σ H _ us Q I ru ⟨_, _, rfl, .inr h1.sqT, by rw [← rs.length]; exact h⟩
  | lst xs =>
    simp only [lenP, Option.some.injEq] at e
    subst e
    cases q with
    | lst h1 n hh rs => exact call_len_seq pins s σ H _ us Q I ru ⟨_, _, rfl, .inl (SqL.of h1), by rw [← rs.length]; exact h⟩
  | scr ns =>
    simp only [lenP, Option.some.injEq] at e
    subst e
    cases q with
    | scr h1 => exact call_len_seq pins s σ H _ us Q I ru ⟨_, _, rfl, .inl h1.sqL, by rw [List.length_map]; exact h⟩
  | _ => simp [lenP] at e
theorem rel1 {c : Cn} {μ : List Addr} {H : Hp} {d : D} {xs : List V} (h : RelDs c μ H [d] xs) : ∃ x, xs = [x] ∧ RelD c μ H d x := by
  cases h with
  | cons a t => cases t; exact ⟨_, rfl, a⟩
theorem rel2 {c : Cn} {μ : List Addr} {H : Hp} {d e : D} {xs : List V} (h : RelDs c μ H [d, e] xs) : ∃ x y, xs = [x, y] ∧ RelD c μ H d x ∧ RelD c μ H e y := by
  cases h with
  | cons a t =>
    obtain ⟨y, e, q⟩ := rel1 t
    subst e
    exact ⟨_, y, rfl, a, q⟩
theorem bi_sound (hc : X.calm = true) (b : Bi) : CallR X (biVal b) (rCa (cn X ca ν) fun ds => rd fun S => biP S b ds) := by
  intro pins s σ H xs us Q I ru h
  obtain ⟨S, μ, ds, r, qs, d, S', hg, post⟩ := h
  obtain ⟨e, rfl⟩ := rd_ok.mp hg
  unfold biP at e
  split at e
  · obtain ⟨x, rfl, q⟩ := rel1 qs
    obtain ⟨n, e1, rfl⟩ := Option.map_eq_some_iff.mp e
    exact len_ok I ru r q e1 (post.now r (.int _))
  · obtain ⟨x, rfl, q⟩ := rel1 qs
    cases e; cases q
    exact call_int1 pins s σ H _ us Q I ru (.inl ⟨_, rfl, post.now r (.int _)⟩)
  · obtain ⟨x, rfl, q⟩ := rel1 qs
    cases e; cases q
    exact call_int1 pins s σ H _ us Q I ru (.inr ⟨_, rfl, post.now r (.int _)⟩)
  · obtain ⟨x, rfl, q⟩ := rel1 qs
    cases e; cases q
    exact call_bool1 pins s σ H _ us Q I ru (.inl ⟨_, rfl, post.now r (.bl _)⟩)
  · obtain ⟨x, rfl, q⟩ := rel1 qs
    cases e; cases q
    exact call_bool1 pins s σ H _ us Q I ru (.inr ⟨_, rfl, post.now r (.bl _)⟩)
  · obtain ⟨x, rfl, q⟩ := rel1 qs
    split at e
    · rename_i hl
      cases e; cases q
      exact call_str_int pins s σ H _ us Q I ru ⟨_, rfl, hl, post.now r (.str _)⟩
    · cases e
  · obtain ⟨x, rfl, q⟩ := rel1 qs
    cases e; cases q
    exact call_abs pins s σ H _ us Q I ru ⟨_, rfl, post.now r (.int _)⟩
  · obtain ⟨x, y, rfl, q, q2⟩ := rel2 qs
    cases e; cases q; cases q2
    exact call_max2 hc pins s σ H _ us Q I ru ⟨_, _, rfl, post.now r (.int _)⟩
  · obtain ⟨x, y, rfl, q, q2⟩ := rel2 qs
    cases e; cases q; cases q2
    exact call_min2 hc pins s σ H _ us Q I ru ⟨_, _, rfl, post.now r (.int _)⟩
  · obtain ⟨x, rfl, q⟩ := rel1 qs
    split at e
    · rename_i i r' e1
      cases e
      obtain ⟨ys, e2, e3⟩ := Option.bind_eq_some_iff.mp e1
      obtain ⟨p, vs, rfl, hp, rs⟩ := lstOf_rel r q e2
      rw [intsOf_eq e3] at rs
      rw [rel_ints rs] at hp
      refine cr_max hc pins s σ H _ us Q I ru ⟨p, i :: r', rfl, SqL.of hp, by simp, fun m hm hle => ?_⟩
      have sp := foldMax_spec r' i
      have : m = foldMax i r' := by
        have h1 : foldMax i r' ≤ m := by
          rcases sp.1 with h | h
          · rw [h]; exact hle _ List.mem_cons_self
          · exact hle _ (List.mem_cons_of_mem _ h)
        rcases List.mem_cons.mp hm with e | hm
        · subst e; exact Int.le_antisymm sp.2.1 h1
        · exact Int.le_antisymm (sp.2.2 m hm) h1
      rw [this]; exact post.now r (.int _)
    · cases e
  · obtain ⟨x, rfl, q⟩ := rel1 qs
    split at e
    · rename_i i r' e1
      cases e
      obtain ⟨ys, e2, e3⟩ := Option.bind_eq_some_iff.mp e1
      obtain ⟨p, vs, rfl, hp, rs⟩ := lstOf_rel r q e2
      rw [intsOf_eq e3] at rs
      rw [rel_ints rs] at hp
      refine cr_min hc pins s σ H _ us Q I ru ⟨p, i :: r', rfl, SqL.of hp, by simp, fun m hm hle => ?_⟩
      have sp := foldMin_spec r' i
      have : m = foldMin i r' := by
        have h1 : m ≤ foldMin i r' := by
          rcases sp.1 with h | h
          · rw [h]; exact hle _ List.mem_cons_self
          · exact hle _ (List.mem_cons_of_mem _ h)
        rcases List.mem_cons.mp hm with e | hm
        · subst e; exact Int.le_antisymm h1 sp.2.1
        · exact Int.le_antisymm h1 (sp.2.2 m hm)
      rw [this]; exact post.now r (.int _)
    · cases e
  · obtain ⟨x, rfl, q⟩ := rel1 qs
    obtain ⟨ns, e1, rfl⟩ := Option.map_eq_some_iff.mp e
    obtain ⟨ys, e2, e3⟩ := Option.bind_eq_some_iff.mp e1
    obtain ⟨p, vs, rfl, hp, rs⟩ := lstOf_rel r q e2
    rw [intsOf_eq e3] at rs
    rw [rel_ints rs] at hp
    exact cr_sum hc pins s σ H _ us Q I ru ⟨p, ns, rfl, SqL.of hp, post.now r (.int _)⟩
  · obtain ⟨x, rfl, q⟩ := rel1 qs
    obtain ⟨ns, e1, rfl⟩ := Option.map_eq_some_iff.mp e
    obtain ⟨ys, e2, e3⟩ := Option.bind_eq_some_iff.mp e1
    obtain ⟨p, vs, rfl, hp, rs⟩ := lstOf_rel r q e2
    rw [blsOf_eq e3] at rs
    rw [rel_bls rs] at hp
    exact cr_all hc pins s σ H _ us Q I ru ⟨p, ns, rfl, SqL.of hp, post.now r (.bl _)⟩
  · obtain ⟨x, rfl, q⟩ := rel1 qs
    obtain ⟨ns, e1, rfl⟩ := Option.map_eq_some_iff.mp e
    obtain ⟨ys, e2, e3⟩ := Option.bind_eq_some_iff.mp e1
    obtain ⟨p, vs, rfl, hp, rs⟩ := lstOf_rel r q e2
    rw [blsOf_eq e3] at rs
    rw [rel_bls rs] at hp
    exact cr_any hc pins s σ H _ us Q I ru ⟨p, ns, rfl, SqL.of hp, post.now r (.bl _)⟩
  · obtain ⟨x, rfl, q⟩ := rel1 qs
    obtain ⟨ys, e1, rfl⟩ := Option.map_eq_some_iff.mp e
    rename_i dd
    cases dd with
    | tup zs =>
      simp only [seqOf, Option.some.injEq] at e1
      subst e1
      cases q with
      | tup h rs => exact call_tuple_of pins s σ H _ us Q I ru ⟨_, _, rfl, .inr ⟨h.sqT, post.now r (.tup h rs)⟩⟩
    | lst zs =>
      obtain ⟨p, vs, rfl, hp, rs⟩ := lstOf_rel r q (xs := ys) (by simpa [seqOf, lstOf] using e1)
      exact call_tuple_of pins s σ H _ us Q I ru ⟨p, vs, rfl, .inl ⟨SqL.of hp, fun l hl => post.newTup r hl rs⟩⟩
    | hd n =>
      obtain ⟨p, vs, rfl, hp, rs⟩ := lstOf_rel r q (xs := ys) (by simpa [seqOf, lstOf] using e1)
      exact call_tuple_of pins s σ H _ us Q I ru ⟨p, vs, rfl, .inl ⟨SqL.of hp, fun l hl => post.newTup r hl rs⟩⟩
    | scr ns =>
      simp only [seqOf, Option.some.injEq] at e1
      subst e1
      cases q with
      | scr h => exact call_tuple_of pins s σ H _ us Q I ru ⟨_, _, rfl, .inl ⟨h.sqL, fun l hl => post.newTup r hl (RelDs.ints ns)⟩⟩
    | _ => simp [seqOf] at e1
  · cases e

/-- a new list, at any free place -/
def rNewL (c : Cn) (μ : List Addr) (H : Hp) (S : Sto) (ds : List D) (Q : VK) : Prop := ∀ (vs : List V) (p : Addr), RelDs c μ H ds vs → H p = none → Q (.ref p) (upd H p (.lst vs))
def rFr (c : Cn) (g : Sto → List D → Option (List D)) : List V → Hp → VK → Prop := fun xs H Q => ∃ S μ ds, RelS c μ S H ∧ RelDs c μ H ds xs ∧ ∃ ys, g S ds = some ys ∧ rNewL c μ H S ys Q
def bfVal : Bf → Value
  | .list => .type "list" | .sorted => .builtin "sorted"
theorem dkOf_rel {c : Cn} {μ : List Addr} {S : Sto} {H : Hp} {d : D} {v : V} (r : RelS c μ S H) (q : RelD c μ H d v) {kvs : List (Key × D)} (e : dkOf S d = some kvs) : ∃ p vs, v = .ref p ∧ H p = some (.dK vs) ∧ RelKs c μ H kvs vs := by
  cases d with
  | dk ys =>
    simp only [dkOf, Option.some.injEq] at e
    subst e
    cases q with
    | dk h n hh rs => exact ⟨_, _, rfl, h, rs⟩
  | hd n =>
    simp only [dkOf] at e
    split at e
    · rename_i ys hs
      cases e
      cases q with
      | hd hm =>
        obtain ⟨ho, h1, vs, e2, h2⟩ := r.obj hs hm
        subst e2
        exact ⟨_, vs, rfl, h1, h2⟩
    · cases e
  | _ => simp [dkOf] at e
theorem keyInts_map : ∀ {kvs : List (Key × D)} {ks : List Int}, keyInts kvs = some ks → kvs.map (·.1) = ks.map Sum.inl
  | [], _, e => by simp only [keyInts, Option.some.injEq] at e; subst e; rfl
  | (.inl i, d) :: r, ks, e => by
    simp only [keyInts] at e
    obtain ⟨ks', e1, rfl⟩ := Option.map_eq_some_iff.mp e
    simp [keyInts_map e1]
  | (.inr i, d) :: r, ks, e => by simp [keyInts] at e
theorem keyStrs_map : ∀ {kvs : List (Key × D)} {ks : List Str}, keyStrs kvs = some ks → kvs.map (·.1) = ks.map Sum.inr
  | [], _, e => by simp only [keyStrs, Option.some.injEq] at e; subst e; rfl
  | (.inr i, d) :: r, ks, e => by
    simp only [keyStrs] at e
    obtain ⟨ks', e1, rfl⟩ := Option.map_eq_some_iff.mp e
    simp [keyStrs_map e1]
  | (.inl i, d) :: r, ks, e => by simp [keyStrs] at e
theorem bf_sound (hcalm : X.calm = true) (b : Bf) : CallR X (bfVal b) (rFr (cn X ca ν) fun S ds => bfP S b ds) := by
  intro pins s σ H xs us Q I ru h
  obtain ⟨S, μ, ds, r, qs, ys, e, post⟩ := h
  replace e : bfP S b ds = some ys := e
  unfold bfP at e
  split at e
  · obtain ⟨x, rfl, q⟩ := rel1 qs
    obtain ⟨p, vs, rfl, hp, rs⟩ := seqOf_rel r q e
    exact call_list_of pins s σ H _ us Q I ru ⟨p, vs, rfl, hp, fun l hl => post vs l rs hl⟩
  · obtain ⟨x, rfl, q⟩ := rel1 qs
    split at e
    · split at e
      · rename_i kvs e1
        obtain ⟨p, vs, rfl, hp, rs⟩ := dkOf_rel r q e1
        have hk := relKs_map rs
        split at e
        · rename_i ks e2
          split at e
          · rename_i h64
            cases e
            rw [keyInts_map e2] at hk
            refine call_sortedDI hcalm pins s σ H _ us Q I ru ⟨p, vs, ks, rfl, .of hp, hk, h64, fun ys l pm pw hl => ?_⟩
            rw [sortI_uniq pm pw]
            exact post _ l (RelDs.ints _) hl
          · cases e
        · split at e
          · rename_i ks e2
            split at e
            · rename_i h64
              cases e
              rw [keyStrs_map e2] at hk
              refine call_sortedD hcalm pins s σ H _ us Q I ru ⟨p, vs, ks, rfl, .of hp, hk, h64, fun ys l pm pw hl => ?_⟩
              rw [sortT_uniq pm pw]
              exact post _ l (strs_rel _) hl
            · cases e
          · cases e
      · cases e
    · rename_i zs e1
      obtain ⟨p, vs, rfl, hp, rs⟩ := lstOf_rel r q e1
      split at e
      · rename_i ns e2
        cases e
        rw [intsOf_eq e2] at rs
        rw [rel_ints rs] at hp
        refine cr_sortedI pins s σ H _ us Q I ru ⟨p, ns, rfl, SqL.of hp, fun ns' l pm pw hl => ?_⟩
        rw [sortI_uniq pm pw]
        exact post _ l (RelDs.ints _) hl
      · split at e
        · rename_i zs' e2
          split at e
          · rename_i h64
            cases e
            rw [strsOf_eq e2] at rs
            rw [rel_strs rs] at hp
            refine cr_sortedS pins s σ H _ us Q I ru ⟨p, zs', rfl, SqL.of hp, h64, fun ns' l pm pw hl => ?_⟩
            rw [sortT_uniq pm pw]
            exact post _ l (strs_rel _) hl
          · cases e
        · cases e
  · cases e

/-! ### isinstance -/
def tyName : Ty → String
  | .int => "int" | .bool => "bool" | .str => "str" | .tuple => "tuple" | .list => "list" | .dict => "dict"
theorem kit_table : (∀ t ∈ [Ty.int, .bool, .str, .tuple, .list, .dict], kitB "NoneType" (tyName t) = some false) ∧
    (kitB "bool" "int" = some true ∧ kitB "bool" "bool" = some true ∧ kitB "bool" "str" = some false ∧ kitB "bool" "tuple" = some false ∧ kitB "bool" "list" = some false ∧ kitB "bool" "dict" = some false) ∧
    (kitB "int" "int" = some true ∧ kitB "int" "bool" = some false ∧ kitB "int" "str" = some false ∧ kitB "int" "tuple" = some false ∧ kitB "int" "list" = some false ∧ kitB "int" "dict" = some false) ∧
    (kitB "str" "int" = some false ∧ kitB "str" "bool" = some false ∧ kitB "str" "str" = some true ∧ kitB "str" "tuple" = some false ∧ kitB "str" "list" = some false ∧ kitB "str" "dict" = some false) ∧
    (kitB "tuple" "int" = some false ∧ kitB "tuple" "bool" = some false ∧ kitB "tuple" "str" = some false ∧ kitB "tuple" "tuple" = some true ∧ kitB "tuple" "list" = some false ∧ kitB "tuple" "dict" = some false) ∧
    (kitB "list" "int" = some false ∧ kitB "list" "bool" = some false ∧ kitB "list" "str" = some false ∧ kitB "list" "tuple" = some false ∧ kitB "list" "list" = some true ∧ kitB "list" "dict" = some false) ∧
    (kitB "dict" "int" = some false ∧ kitB "dict" "bool" = some false ∧ kitB "dict" "str" = some false ∧ kitB "dict" "tuple" = some false ∧ kitB "dict" "list" = some false ∧ kitB "dict" "dict" = some true) := by
  decide +kernel
def tyD (S : Sto) : D → String
  | .non => "NoneType" | .bl _ => "bool" | .int _ => "int" | .str _ => "str" | .tup _ => "tuple" | .lst _ => "list" | .dk _ => "dict" | .scr _ => "list"
  | .hd n => match S[n]? with
    | some (.lst _) => "list"
    | _ => "dict"
theorem isTy_rel {S : Sto} {μ : List Addr} {H : Hp} {t : Ty} {d : D} {v : V} {b : Bool} (r : RelS (cn X ca ν) μ S H) (q : RelD (cn X ca ν) μ H d v) (e : isTyP S t d = some b) :
    TyX X.K H v (.type (tyD S d)) ∧ kitB (tyD S d) (tyName t) = some b := by
  obtain ⟨k0, ⟨kb1, kb2, kb3, kb4, kb5, kb6⟩, ⟨ki1, ki2, ki3, ki4, ki5, ki6⟩, ⟨ks1, ks2, ks3, ks4, ks5, ks6⟩, ⟨kt1, kt2, kt3, kt4, kt5, kt6⟩, ⟨kl1, kl2, kl3, kl4, kl5, kl6⟩, ⟨kd1, kd2, kd3, kd4, kd5, kd6⟩⟩ := kit_table
  cases q with
  | non =>
    refine ⟨.base .non, ?_⟩
    cases t <;> (simp [isTyP] at e; subst e; exact k0 _ (by simp))
  | bl x =>
    refine ⟨.base (.bl x), ?_⟩
    cases t <;> (simp [isTyP] at e; subst e; assumption)
  | int x =>
    refine ⟨.base (.int x), ?_⟩
    cases t <;> (simp [isTyP] at e; subst e; assumption)
  | str x =>
    refine ⟨.base (.str x), ?_⟩
    cases t <;> (simp [isTyP] at e; subst e; assumption)
  | tup h rs =>
    refine ⟨?_, ?_⟩
    · rcases h with h | ⟨⟨o, its, n, h1, h2, _⟩, _⟩
      · exact .base (.tup h)
      · exact .kTuple h1 h2
    · cases t <;> (simp [isTyP] at e; subst e; assumption)
  | lst h n hh rs =>
    refine ⟨.base (.lst h), ?_⟩
    cases t <;> (simp [isTyP] at e; subst e; assumption)
  | dk h n hh rs =>
    refine ⟨.base (.dK h), ?_⟩
    cases t <;> (simp [isTyP] at e; subst e; assumption)
  | scr h => simp [isTyP] at e
  | @hd n a hm =>
    cases hn : S[n]? with
    | none => simp [isTyP, hn] at e
    | some ob =>
      obtain ⟨ho, h1, h2⟩ := r.obj hn hm
      cases ob with
      | lst xs =>
        obtain ⟨vs, e2, _⟩ := h2
        subst e2
        have et : tyD S (.hd n) = "list" := by simp [tyD, hn]
        rw [et]
        refine ⟨.base (.lst h1), ?_⟩
        cases t <;> (simp [isTyP, hn] at e; subst e; assumption)
      | dk kvs =>
        obtain ⟨vs, e2, _⟩ := h2
        subst e2
        have et : tyD S (.hd n) = "dict" := by simp [tyD, hn]
        rw [et]
        refine ⟨.base (.dK h1), ?_⟩
        cases t <;> (simp [isTyP, hn] at e; subst e; assumption)
      | dt kvs =>
        obtain ⟨vs, e2, _⟩ := h2
        subst e2
        have et : tyD S (.hd n) = "dict" := by simp [tyD, hn]
        rw [et]
        refine ⟨.base (.dT h1), ?_⟩
        cases t <;> (simp [isTyP, hn] at e; subst e; assumption)
      | ins C fs => simp [isTyP, hn] at e
theorem isis_any {S : Sto} {μ : List Addr} {H : Hp} {d : D} {v : V} (r : RelS (cn X ca ν) μ S H) (q : RelD (cn X ca ν) μ H d v) : ∀ {ts : List Ty} {b : Bool}, isis S d ts = some b →
    PySem.W.kitAny X.K (.type (tyD S d)) (ts.map fun t => .type (tyName t)) = some b
  | [], b, e => by simp only [isis, Option.some.injEq] at e; subst e; rfl
  | t :: ts, b, e => by
    simp only [isis] at e
    split at e
    · rename_i b1 b2 e1 e2
      cases e
      rw [List.map_cons]
      refine kitAny_cons (kit_ty (isTy_rel r q e1).2) (fun h => ?_) (fun h => by rw [h]; rfl)
      rw [isis_any r q e2, h]; rfl
    · cases e

/-! ### methods of lists -/
def bmVal : Bm → String
  | .append => "list.append" | .extend => "list.extend" | .pop => "list.pop" | .index => "list.index"
def rBm (c : Cn) (g : Sto → D → List D → Option (D × Sto)) : V → List V → Hp → VK → Prop := fun x xs H Q => ∃ S μ dx ds, RelS c μ S H ∧ RelD c μ H dx x ∧ RelDs c μ H ds xs ∧ ∃ d S', g S dx ds = some (d, S') ∧ Post c μ H d S' Q
theorem findP_spec {p : PyData} : ∀ {ps : List PyData} {i j : Nat}, findP p ps i = some j → ∃ m, j = i + m ∧ (∃ z, ps[m]? = some z ∧ PyData.eqv z p = true) ∧ ∀ (k : Nat) (z : PyData), k < m → ps[k]? = some z → PyData.eqv z p = false
  | [], _, _, e => by simp [findP] at e
  | q :: r, i, j, e => by
    simp only [findP] at e
    split at e
    · rename_i h
      cases e
      exact ⟨0, rfl, ⟨q, rfl, h⟩, fun k z hk => absurd hk (Nat.not_lt_zero k)⟩
    · rename_i h
      obtain ⟨m, h1, ⟨z, h2, h3⟩, h4⟩ := findP_spec e
      refine ⟨m + 1, by omega, ⟨z, by simpa using h2, h3⟩, fun k z' hk hz => ?_⟩
      cases k with
      | zero => simp at hz; subst hz; simpa using h
      | succ k => exact h4 k z' (by omega) (by simpa using hz)
theorem bm_sound (hu : X.A.units + 65 < cLine) (m : Bm) : MtR X (bmVal m) (rBm (cn X ca ν) fun S d ds => bmP S m d ds) := by
  intro pins s σ H x xs v us Q I rx ru h
  obtain ⟨S, μ, dx, ds, r, qx, qs, d, S', e, post⟩ := h
  replace e : bmP S m dx ds = some (d, S') := e
  unfold bmP at e
  split at e
  · rename_i n y
    obtain ⟨z, rfl, qy⟩ := rel1 qs
    cases qx with
    | @hd _ a hm =>
      split at e
      · rename_i ys hn
        split at e
        · rename_i hl
          cases e
          obtain ⟨ho, h1, vs, e2, h2⟩ := r.obj hn hm
          subst e2
          have st := r.set hm (o := .lst (ys ++ [y])) (ho := .lst (vs ++ [z])) ⟨_, rfl, h2.append (.cons qy .nil)⟩
          exact mt_append pins s σ H _ _ v us Q I rx ru ⟨_, vs, z, rfl, rfl, h1, by rw [← h2.length]; exact hl, post μ _ _ st.1 st.2 .non⟩
        · cases e
      · cases e
  · rename_i n y
    obtain ⟨z, rfl, qy⟩ := rel1 qs
    cases qx with
    | @hd _ a hm =>
      split at e
      · rename_i ys zs hn e3
        split at e
        · rename_i hl
          cases e
          obtain ⟨ho, h1, vs, e2, h2⟩ := r.obj hn hm
          subst e2
          obtain ⟨p, ws, rfl, hp, rs⟩ := lstOf_rel r qy e3
          have st := r.set hm (o := .lst (ys ++ zs)) (ho := .lst (vs ++ ws)) ⟨_, rfl, h2.append rs⟩
          exact mt_extend pins s σ H _ _ v us Q I rx ru ⟨_, p, vs, ws, rfl, rfl, h1, hp, by rw [← h2.length, ← rs.length]; exact hl, post μ _ _ st.1 st.2 .non⟩
        · cases e
      · cases e
  · rename_i n
    cases qs
    cases qx with
    | @hd _ a hm =>
      split at e
      · rename_i ys hn
        split at e
        · rename_i y hy
          cases e
          obtain ⟨ho, h1, vs, e2, h2⟩ := r.obj hn hm
          subst e2
          obtain ⟨w, hw, qw⟩ := h2.get hy
          have st := r.set hm (o := .lst ys.dropLast) (ho := .lst vs.dropLast) ⟨_, rfl, h2.dropLast⟩
          exact mt_pop pins s σ H _ _ v us Q I rx ru ⟨_, vs, w, rfl, rfl, h1, by rw [← h2.length]; exact hw, post μ _ _ st.1 st.2 (qw.mono r st.1)⟩
        · cases e
      · cases e
  · rename_i y
    obtain ⟨z, rfl, qy⟩ := rel1 qs
    split at e
    · rename_i zs e1
      split at e
      · rename_i ps p e2 e3
        split at e
        · rename_i hs
          obtain ⟨j, e4, e5⟩ := Option.map_eq_some_iff.mp e
          cases e5
          obtain ⟨h1, h2⟩ := Bool.and_eq_true_iff.mp hs
          obtain ⟨a, vs, rfl, _, _⟩ := lstOf_rel r qx e1
          obtain ⟨m, rfl, ⟨w, hw, hq⟩, hno⟩ := findP_spec e4
          rw [Nat.zero_add] at post
          exact mt_indexD hu pins s σ H _ _ v us Q I rx ru ⟨a, z, p, ps, m, w, rfl, rfl, datP_rel r qx e2, datP_rel r qy e3, h2, h1, hw, hq, hno, post.now r (.int _)⟩
        · cases e
      · cases e
    · cases e
  · cases e
end
end Mp
set_option Elab.async false
set_option linter.all false
set_option maxRecDepth 100000
set_option maxHeartbeats 1000000
namespace PySem
open Sem (wp)
open AutoSeq1 (wpAny_loadPart')
theorem meets_enumerate_newT (l : Addr) (items : Array Value) (n : Nat) (dct : Option Addr) (sl : Array (Option Value)) :
    Meets (Builtin.«enumerate.__new__» ⟨[.type "enumerate", .ref l], []⟩) (fun _ R s => s.heap.get? l = some { cls := .type "tuple", dict := dct, data := .seq items n, slots := sl } ∧
      R (.ok (.ret (.ref (s.heap.push { cls := .type "tuple_iterator", data := .fields #[.ref l, .int 0 0] }).objs.size)))
        { s with heap := (s.heap.push { cls := .type "tuple_iterator", data := .fields #[.ref l, .int 0 0] }).push { cls := .type "enumerate", data := .fields #[.none, .bool false, .ref s.heap.objs.size, rawInt 0, .none, .none] } }) :=
  .of_wp fun prog w A R s h => by
    obtain ⟨hp, g, d, tk, os⟩ := s; obtain ⟨hl, h⟩ := h
    have hsub := sub_enumerate
    have hL : Heap.IsTuple (Shared.heap ⟨hp, g, d, tk, os⟩) l items := ⟨_, hl, rfl, n, rfl⟩
    wp_walk using wpAny_loadPart' hl
    refine wpAny_stack_any fun st => wpAny_pure ?_
    split
    · rename_i c _ _ _ _ _
      cases (c == Value.type "enumerate")
      · wp_walk using wpAny_loadPart' hl, wpAny_pyIter_tuple hL
        exact ⟨_, rfl, h⟩
      · wp_walk using wpAny_loadPart' hl, wpAny_pyIter_tuple hL
        exact ⟨_, rfl, h⟩
    · wp_walk using wpAny_loadPart' hl, wpAny_pyIter_tuple hL
      exact ⟨_, rfl, h⟩
section
variable {prog : Program} {w : World} {A : Around} {E : Value → Shared → Prop} {s : Shared}
theorem call_enumerate_tuple {l : Addr} {items : Array Value} {Q : Value → Shared → Prop} (hL : s.heap.IsTuple l items)
    (h : ∀ h', IsEnum h' (s.heap.objs.size + 1) s.heap.objs.size 0 .none → h'.IsTupleIter s.heap.objs.size l 0 → h'.objs.size = s.heap.objs.size + 2 →
      (∀ b o, s.heap.get? b = some o → h'.get? b = some o) → Q (.ref (s.heap.objs.size + 1)) { s with heap := h' }) :
    wpAny (model prog w) A (call (.type "enumerate") [.ref l]) Q E s := by
  obtain ⟨⟨c, dct, dt, sl⟩, hl, hc, n, hd⟩ := hL
  replace hc : c = .type "tuple" := hc
  replace hd : dt = .seq items n := hd
  subst hc hd
  refine callType_new F.called_enumerate (by decide) (F.typeCall_enumerate_1 _) (F.newCall_enumerate_1 _) (fun obj => F.args_object_init_2 obj _) F.entry_enumerate_new
    (meets_enumerate_newT l items n dct sl) ⟨hl, ?_⟩
  have hz : (s.heap.push { cls := .type "tuple_iterator", data := .fields #[.ref l, .int 0 0] }).objs.size = s.heap.objs.size + 1 := Heap.size_push ..
  show _ ∧ _
  rw [hz]
  have he : IsEnum ((s.heap.push { cls := .type "tuple_iterator", data := .fields #[.ref l, .int 0 0] }).push
      { cls := .type "enumerate", data := .fields #[.none, .bool false, .ref s.heap.objs.size, rawInt 0, .none, .none] }) (s.heap.objs.size + 1) s.heap.objs.size 0 .none := by
    have := Heap.get?_push_size (s.heap.push { cls := .type "tuple_iterator", data := .fields #[.ref l, .int 0 0] })
      (o := { cls := .type "enumerate", data := .fields #[.none, .bool false, .ref s.heap.objs.size, rawInt 0, .none, .none] }) rfl
    rw [hz] at this; exact this
  refine ⟨⟨_, he, rfl⟩, h _ he ⟨_, Heap.get?_push_of_some _ (Heap.get?_push_size _ rfl), rfl, rfl⟩ (by rw [Heap.size_push, hz]) fun b o x => Heap.get?_push_of_some _ (Heap.get?_push_of_some _ x)⟩
end
end PySem

namespace Mp
open PySem PySem.Spec PyProof.Rows L2
/-- a tuple's items, each in a new pair with its place -/
def IteT (K : PySem.W.Frag) (a : Addr) : L2.It :=
  ⟨fun i H => ∃ (xs : List V) (x : V), SqT K H a xs ∧ xs[i]? = some x, fun i H v H' => ∃ T x, v = .ref T ∧ H T = none ∧ H' = upd H T (.tup [.int (i : Nat), x]) ∧ ∀ xs, SqT K H a xs → xs[i]? = some x, fun i H => ∃ xs : List V, SqT K H a xs ∧ xs.length ≤ i⟩
theorem turn_enumT {P : Program} {w : World} {K : PySem.W.Frag} {elts : List Expr} {kk : Nat} {tpos : Pos} (a e it : Addr) (hai : a ≠ it) (hae : a ≠ e) (hei : e ≠ it) :
    Turn P w K (.Tuple elts kk tpos) (IteT K a) [e, it] e (fun i h => (∃ old, IsEnum h e it ((i : Nat) : Int) old) ∧ h.IsTupleIter it a i) where
  mem := by simp
  obj := fun i h st b hb => by
    obtain ⟨⟨old, he⟩, ⟨o, ho, hc, hd⟩⟩ := st
    have e' : b = e ∨ b = it := by simpa using hb
    rcases e' with z | z
    · rw [z]; exact ⟨_, he, fun v q => nomatch q⟩
    · rw [z]; exact ⟨o, ho, fun v q => by rw [hd] at q; cases q⟩
  keep := fun i h h' st k => let ⟨⟨old, he⟩, hi⟩ := st; ⟨⟨old, k e (by simp) _ he⟩, hi.at fun o q => k it (by simp) o q⟩
  item := by
    intro X hP hw hK hc i pins s σ H E I hf st hg
    subst hP hw hK
    obtain ⟨⟨old, he⟩, hit⟩ := st
    obtain ⟨xs, x, hq, hx⟩ := hg
    obtain ⟨its, rv, p, hz⟩ := I.tuple hq
    obtain ⟨u, hu, ru⟩ := rv.get hx
    have hel : e < s.heap.objs.size := Heap.lt_size he
    have hil : it < s.heap.objs.size := by obtain ⟨_, q, _⟩ := hit; exact Heap.lt_size q
    have hlt : i < its.toArray.size := by simpa using (List.getElem?_eq_some_iff.mp hu).1
    refine wpAny_pyNext_enum_itemD (Draws.tuple (A := X.A.in1) (I.ok.hd hc) it a hai its.toArray) he (i := i) (St := fun i h => h.IsTupleIter it a i ∧ h.IsTuple a its.toArray) ⟨hit, p⟩ hlt hei (by simp [hei, Ne.symm hae]) fun x' h' tk hP ho hit' hT hsz hk => ?_
    have ex : x' = u := by
      have h1 : its.toArray[i]? = some x' := hP
      have h2 : its.toArray[i]? = some u := by simpa using hu
      rw [h1] at h2
      exact Option.some.inj h2
    subst ex
    refine ⟨_, rfl, wpAny_letOwnedTupleGo_enum (s := { s with heap := h', toks := tk + 1 }) ho fun h'' he' sb => ?_⟩
    have hT2 : h''.get? s.heap.objs.size = some { cls := .type "tuple", data := .seq #[.int i tk, x'] } := (sb.2 _ (Nat.ne_of_gt hel)).trans hT
    have new : ObjOk X.prog X.w (upd H s.heap.objs.size (.tup [.int (i : Nat), x])) h'' s.heap.objs.size (.tup [.int (i : Nat), x]) :=
      ⟨by show 2 ≤ sizeLine; decide, [.int i tk, x'], .cons ⟨_, rfl⟩ (.cons ru .nil), ⟨_, hT2, rfl, _, rfl⟩⟩
    have I1 : Inv X pins σ (upd H s.heap.objs.size (.tup [.int (i : Nat), x])) { s with heap := h'', toks := tk + 1 } :=
      I.turnedNew (ch := [e, it]) (fun b ob hb q => (sb.2 b (fun z => hb (by simp [z]))).trans (hk b ob (fun z => hb (by simp [z])) (fun z => hb (by simp [z])) q)) hf (Nat.le_refl _) new
    refine ⟨.ref s.heap.objs.size, _, I1, rfl, ⟨_, x, rfl, I.hok.fresh (Nat.le_refl _), rfl, fun ys hy => by rw [I.tuple_inj hy hq]; exact hx⟩, ⟨⟨x', ?_⟩, hit'.1.at fun o q => (sb.2 it (Ne.symm hei)).trans q⟩, fun b hb => ?_⟩
    · have e1 : ((i + 1 : Nat) : Int) = (i : Int) + 1 := by omega
      rw [e1]; exact he'
    · have hb' : b < s.heap.objs.size := by
        have e' : b = e ∨ b = it := by simpa using hb
        rcases e' with z | z
        · rw [z]; exact hel
        · rw [z]; exact hil
      rw [upd_ne (Nat.ne_of_lt hb')]
      exact (hf b hb).1
  done := by
    intro X hP hw hK hc i pins s σ H E I hf st hg
    subst hP hw hK
    obtain ⟨⟨old, he⟩, hit⟩ := st
    obtain ⟨xs, hq, hx⟩ := hg
    obtain ⟨its, rv, p, hz⟩ := I.tuple hq
    obtain ⟨f0, f1, f2, f3, f4, f5⟩ := hf it (by simp)
    have hl := rv.length
    have hT : s.TypeIs (.ref e) "enumerate" := ⟨_, he, rfl⟩
    unfold pyNext
    refine wpAny_bind (wpAny_attempt (wpAny_callSpecial?_slot (name := Str.ofString "__next__") hT F.slot_enumerate_next
      (wpAny_call_entry F.slot_enumerate_next hT F.entry_enumerate_next ?_ (F.args_enumerate_next_1 _))))
    show wpAny _ _ (field (.ref e) 2 >>= _) _ _ _
    refine wpAny_bind (wpAny_field he rfl (x := .ref it) rfl ?_)
    refine wpAny_bind (wpAny_nextOf_tuple_end (I.ok.hd hc) hit p (by simp; omega) fun h' x he' hx' => ?_)
    obtain ⟨o, ho, hc'⟩ := hx'
    refine wpAny_bind (wpAny_isInstance (T := "StopIteration") (b := true) ⟨o, ho, hc'⟩ isSubtype_stop ?_)
    exact wpAny_pure ⟨rfl, I.turned (t' := s.toks) (fun b o hb q => he' b o hb q) f0 f1 f3 f4 f5⟩
  self := fun A i s Q E st h => let ⟨⟨_, he⟩, _⟩ := st; wpAny_pyIter_enum he h
def iEnumT (K : PySem.W.Frag) (ta : TA) : TI := fun σ H R => ta σ H fun vs H1 => ∃ a xs, vs = [.ref a] ∧ SqT K H1 a xs ∧ R (IteT K a) H1
theorem pi_enumT {X : Cx} {e : Expr} {ta : TA} {p pos tpos : Pos} {elts : List Expr} {kk : Nat} (hg : Gl X "enumerate") (hm : X.mg "enumerate" = none) (ha : PA X [e] ta) (hs : starEach [e] X.env = [(false, eval e X.env)] := by rfl) :
    PI X (.Tuple elts kk tpos) (.Call (.Name "enumerate" p) [e] [] pos) (iEnumT X.K ta) := by
  refine ⟨fun pins s σ H R I h => ?_⟩
  refine Call_ (ld_blt I hg hm boot_enumerate (PyProof.Rows.callWith_type1 (thn (ha.run pos pins s σ H _ I h) fun us s1 ⟨vs, H1, I1, r1, q1⟩ => ?_) hs rfl))
  obtain ⟨a, xs, ex, hq, q⟩ := q1
  subst ex
  cases r1 with
  | cons r rr =>
    cases rr
    cases r
    obtain ⟨its, rv, p', hz⟩ := I1.tuple hq
    have hal : a < s1.heap.objs.size := p'.lt
    refine call_enumerate_tuple p' fun h' he hit hsz hk => wpAny_pyIter_enum he ?_
    have I2 : Inv X pins σ H1 { s1 with heap := h' } := I1.kept (t' := s1.toks) hk
    refine ⟨s1.heap.objs.size + 1, [s1.heap.objs.size + 1, s1.heap.objs.size], _, _, H1, rfl, I2, turn_enumT a (s1.heap.objs.size + 1) s1.heap.objs.size (Nat.ne_of_lt hal) (Nat.ne_of_lt (Nat.lt_succ_of_lt hal)) (Nat.succ_ne_self _), ⟨⟨.none, he⟩, hit⟩, fun b hb => ?_, q⟩
    have e' : b = s1.heap.objs.size + 1 ∨ b = s1.heap.objs.size := by simpa using hb
    have hle : s1.heap.objs.size ≤ b := by
      rcases e' with z | z
      · rw [z]; exact Nat.le_add_right _ _
      · rw [z]; exact Nat.le_refl _
    exact I1.fpOk hle (I1.hok.fresh hle)
end Mp
set_option Elab.async false
set_option linter.all false
set_option maxRecDepth 100000
set_option maxHeartbeats 1000000
namespace Mp
open PySem PySem.Spec PyProof.Rows L2

/-! ### from the text's expressions to ours -/
structure Gx where
  fns : List (Str × Nat)
  clss : List (Str × Nat)
  glbs : List (Str × Nat)
  blt : List Str
  meths : List Str
  flds : List Str
  muts : List (Nat × Nat)
  dts : List (Nat × Nat)
def Gx.isMut (G : Gx) (p : Pos) : Bool := G.muts.contains (p.line, p.col)
def Gx.isDt (G : Gx) (p : Pos) : Bool := G.dts.contains (p.line, p.col)
def ixOf : List Str → Str → Option Nat
  | [], _ => none
  | y :: r, x => if y = x then some 0 else (ixOf r x).map (· + 1)
theorem ixOf_get : ∀ {N : List Str} {x : Str} {i : Nat}, ixOf N x = some i → N[i]? = some x
  | [], _, _, e => by simp [ixOf] at e
  | y :: r, x, i, e => by
    simp only [ixOf] at e
    split at e
    · rename_i h
      cases e
      simp [h]
    · obtain ⟨j, e1, rfl⟩ := Option.map_eq_some_iff.mp e
      simpa using ixOf_get e1
def okName (x : Str) : Bool := !(x == ("__debug__" : Str)) && !(x == ("__classdict__" : Str)) && !(x == ("__name__" : Str))
def isGl (sc : Scope) (x : Str) : Bool := okName x && (match sc.names.lookup x with
  | some .globalImplicit => true
  | _ => false)
def isVis (sc : Scope) (x : Str) : Bool := okName x && (match sc.names.lookup x with
  | some .local => true
  | some .cell => true
  | some .free => true
  | _ => false)
def isLoc (sc : Scope) (x : Str) : Bool := match sc.names.lookup x with
  | some .local => true
  | some .cell => true
  | _ => false
def nostar : Expr → Bool
  | .Starred .. => false
  | _ => true
def plainB : Expr → Bool
  | .Call (.Name _ _) [] [] _ => false
  | _ => true
def isComp : Expr → Bool
  | .ListComp .. => true
  | .SetComp .. => true
  | .DictComp .. => true
  | _ => false
def op2Of : Operator → Option Op2
  | .Add => some .add | .Sub => some .sub | .Mult => some .mul | .FloorDiv => some .fdiv | .Mod => some .mod | .Pow => some .pow
  | _ => none
def cop2Of : CmpOp → Option Cop
  | .Eq => some .eq | .NotEq => some .ne | .Lt => some .lt | .LtE => some .le | .Gt => some .gt | .GtE => some .ge | .Is => some .is_ | .IsNot => some .isnot | .In => some .in_ | .NotIn => some .notin
def biNm : Bi → Str
  | .len => "len" | .int => "int" | .bool => "bool" | .str => "str" | .abs => "abs" | .max2 => "max" | .min2 => "min" | .max1 => "max" | .min1 => "min" | .sum => "sum" | .all => "all" | .any => "any" | .tuple => "tuple"
def biOf (x : Str) (n : Nat) : Option Bi :=
  if n = 1 then [Bi.len, .int, .bool, .str, .abs, .max1, .min1, .sum, .all, .any, .tuple].find? fun b => decide (biNm b = x)
  else if n = 2 then [Bi.max2, .min2].find? fun b => decide (biNm b = x) else none
def bfNm : Bf → Str
  | .list => "list" | .sorted => "sorted"
def bfOf (x : Str) (n : Nat) : Option Bf := if n = 1 then [Bf.list, .sorted].find? fun b => decide (bfNm b = x) else none
def bmNm : Bm → Str
  | .append => "append" | .extend => "extend" | .pop => "pop" | .index => "index"
def bmOf (x : Str) : Option Bm := [Bm.append, .extend, .pop, .index].find? fun b => decide (bmNm b = x)
def tyStr : Ty → Str
  | .int => "int" | .bool => "bool" | .str => "str" | .tuple => "tuple" | .list => "list" | .dict => "dict"
def tyOf (x : Str) : Option Ty := [Ty.int, .bool, .str, .tuple, .list, .dict].find? fun b => decide (tyStr b = x)
def cstOf : Const → Option D
  | .int i => some (.int i)
  | .bool b => some (.bl b)
  | .none => some .non
  | .str x => some (.str x)
  | _ => none
def keyC : List (Option Expr) → Option (List Key)
  | [] => some []
  | some (.Constant (.str x) _ _) :: r => (keyC r).map (.inr x :: ·)
  | some (.Constant (.int x) _ _) :: r => (keyC r).map (.inl x :: ·)
  | _ => none
def cName (G : Gx) (N : List Str) (sc : Scope) (x : Str) : Option E :=
  if isVis sc x then (ixOf N x).map E.loc
  else if isGl sc x then (G.glbs.lookup x).map E.glb
  else none
def glB (G : Gx) (sc : Scope) (x : Str) : Bool := isGl sc x && G.blt.contains x
/-- classes named behind isinstance -/
def cTys (G : Gx) (sc : Scope) : List Expr → Option (List Ty)
  | [] => some []
  | .Name x _ :: r => if glB G sc x then match tyOf x, cTys G sc r with
    | some t, some ts => some (t :: ts)
    | _, _ => none
    else none
  | _ => none
def ownOf (N : List Str) (scope : Scope) : List (Str × Nat) := scope.names.filterMap fun y => match y.2 with
  | .local => (ixOf N y.1).map fun i => (y.1, i)
  | .cell => (ixOf N y.1).map fun i => (y.1, i)
  | _ => none
def okLoc (sc scope : Scope) (x : Str) : Bool := isLoc sc x && isLoc scope x
mutual
def slT : T → List Nat
  | .nm i => [i]
  | .tp ts => slTs ts
  | _ => []
def slTs : Ts → List Nat
  | .nil => []
  | .cons t ts => slT t ++ slTs ts
end
def subL (a b : List Nat) : Bool := a.all fun i => b.contains i
mutual
def cE (G : Gx) (N : List Str) : Nat → Scope → Expr → Option E
  | 0, _, _ => none
  | n + 1, sc, e => match e with
    | .Name x _ => cName G N sc x
    | .Constant c _ _ => (cstOf c).map E.cst
    | .BinOp a op b pos => match op2Of op, cE G N n sc a, cE G N n sc b with
      | some o, some x, some y => if G.isMut pos = true then (match o with
        | .add => some (.catM x y)
        | _ => none) else some (.bin o x y)
      | _, _, _ => none
    | .UnaryOp .USub a _ => (cE G N n sc a).map E.neg
    | .UnaryOp .Not a _ => (cE G N n sc a).map E.not_
    | .Compare a [op] [b] _ => if behindInMarks op b then none else match cop2Of op, cE G N n sc a, cE G N n sc b with
      | some o, some x, some y => some (.cmp o x y)
      | _, _, _ => none
    | .Compare a [op, op'] [b, c] _ => if lastMarks [op, op'] [b, c] then none else match cop2Of op, cop2Of op', cE G N n sc a, cE G N n sc b, cE G N n sc c with
      | some o, some o', some x, some y, some z => some (.chn o o' x y z)
      | _, _, _, _, _ => none
    | .BoolOp .And vs _ => cAnd G N n sc vs
    | .BoolOp .Or vs _ => cOr G N n sc vs
    | .IfExp c a b _ => match cE G N n sc c, cE G N n sc a, cE G N n sc b with
      | some x, some y, some z => some (.ite x y z)
      | _, _, _ => none
    | .Tuple es _ _ => (cEs G N n sc es).map E.tup
    | .List es pos => (cEs G N n sc es).map (E.lst (G.isMut pos))
    | .Dict [] [] pos => some (if G.isDt pos then .dnT else .dnK)
    | .Dict ks vs _ => if ks.length = vs.length ∧ ks.length ≤ 15 then match keyC ks, cEs G N n sc vs with
      | some ks, some es => some (.disp ks es)
      | _, _ => none
      else none
    | .Subscript a (.Slice lo hi none _) _ => match cE G N n sc a, cEo G N n sc lo, cEo G N n sc hi with
      | some x, some l, some h => some (.sl x l h)
      | _, _, _ => none
    | .Subscript a i _ => match cE G N n sc a, cE G N n sc i with
      | some x, some y => some (.ix x y)
      | _, _ => none
    | .Attribute a f _ => if plainB a && G.flds.contains f then (cE G N n sc a).map fun x => .fld x f else none
    | .Call (.Name f _) args [] pos => if isGl sc f then
        (match G.fns.lookup f with
        | some i => (cEs G N n sc args).map (E.call i)
        | none => match G.clss.lookup f with
          | some C => (cEs G N n sc args).map (E.new C)
          | none => if G.blt.contains f then
              (if f = ("isinstance" : Str) then (match args with
                | [a, .Name t _] => (match cTys G sc [.Name t ⟨0, 0, 0, 0⟩], cE G N n sc a with
                  | some ts, some x => some (.isi ts x)
                  | _, _ => none)
                | [a, .Tuple ts _ _] => (match cTys G sc ts, cE G N n sc a with
                  | some ts, some x => if !ts.isEmpty && decide (ts.length ≤ 1000) then some (.isi ts x) else none
                  | _, _ => none)
                | _ => none)
              else if f = ("dict" : Str) then (match args with
                | [a] => (cE G N n sc a).map (E.dictOf true)
                | _ => none)
              else match biOf f args.length with
              | some b => (cEs G N n sc args).map (E.bi b)
              | none => match bfOf f args.length with
                | some b => (cEs G N n sc args).map (E.bf (G.isMut pos) b)
                | none => none)
            else none)
      else none
    | .Call (.Attribute a m apos) args [] pos => if plainB a && decide (apos.endLine = pos.line) && decide (args.length < 29) then
        (if G.meths.contains m then (match cE G N n sc a, cEs G N n sc args with
          | some x, some es => some (.meth x m es)
          | _, _ => none)
        else match bmOf m, cE G N n sc a, cEs G N n sc args with
          | some b, some x, some es => some (.bm b x es)
          | _, _, _ => none)
      else none
    | .ListComp elt [⟨tg, it, ifs, k⟩] scope pos => if k = 0 ∧ blkC N sc scope (ownOf N scope) = true then
        (match cIt G N n sc (match tg with | .Tuple .. => true | _ => false) it, cT G N n (isLoc scope) (relS scope sc) tg, cIfs G N n (relS scope sc) ifs, cE G N n (relS scope sc) elt with
        | some it, some t, some c, some e => if subL (slT t) ((ownOf N scope).map (·.2)) then some (.comp (G.isMut pos) ((ownOf N scope).map (·.2)) t it c e) else none
        | _, _, _, _ => none)
      else none
    | .ListComp elt [⟨tg, it, ifs, k⟩, ⟨tg1, it1, ifs1, k1⟩] scope pos =>
      if k = 0 ∧ k1 = 0 ∧ blkC N sc scope (ownOf N scope) = true ∧ G.isMut pos = false then
        (match cIt G N n sc (match tg with | .Tuple .. => true | _ => false) it, cT G N n (isLoc scope) (relS scope sc) tg, cIfs G N n (relS scope sc) ifs,
          cIt G N n (relS scope sc) (match tg1 with | .Tuple .. => true | _ => false) it1, cT G N n (isLoc scope) (relS scope sc) tg1, cIfs G N n (relS scope sc) ifs1, cE G N n (relS scope sc) elt with
        | some it, some t, some c, some it1, some t1, some c1, some e => if subL (slT t) ((ownOf N scope).map (·.2)) && subL (slT t1) ((ownOf N scope).map (·.2)) then some (.comp2 ((ownOf N scope).map (·.2)) (slT t1) t it c t1 it1 c1 e) else none
        | _, _, _, _, _, _, _ => none)
      else none
    | _ => none
def cEs (G : Gx) (N : List Str) : Nat → Scope → List Expr → Option Es
  | 0, _, _ => none
  | n + 1, sc, es => match es with
    | [] => some .nil
    | e :: r => if nostar e then match cE G N n sc e, cEs G N n sc r with
      | some x, some xs => some (.cons x xs)
      | _, _ => none
      else none
def cAnd (G : Gx) (N : List Str) : Nat → Scope → List Expr → Option E
  | 0, _, _ => none
  | n + 1, sc, es => match es with
    | [] => none
    | [e] => cE G N n sc e
    | e :: r => match cE G N n sc e, cAnd G N n sc r with
      | some x, some y => some (.and_ x y)
      | _, _ => none
def cOr (G : Gx) (N : List Str) : Nat → Scope → List Expr → Option E
  | 0, _, _ => none
  | n + 1, sc, es => match es with
    | [] => none
    | [e] => cE G N n sc e
    | e :: r => match cE G N n sc e, cOr G N n sc r with
      | some x, some y => some (.or_ x y)
      | _, _ => none
def cEo (G : Gx) (N : List Str) : Nat → Scope → Option Expr → Option Eo
  | 0, _, _ => none
  | n + 1, sc, e => match e with
    | none => some .no
    | some e => (cE G N n sc e).map .yes
def cIfs (G : Gx) (N : List Str) : Nat → Scope → List Expr → Option Eo
  | 0, _, _ => none
  | n + 1, sc, e => match e with
    | [] => some .no
    | [e] => (cE G N n sc e).map .yes
    | _ => none
def cIt (G : Gx) (N : List Str) : Nat → Scope → Bool → Expr → Option It
  | 0, _, _, _ => none
  | n + 1, sc, tup, e => match e with
    | .Set .. => none
    | .Call (.Name f p) args [] pos => if f = ("range" : Str) ∧ glB G sc f = true ∧ (args.length = 1 ∨ args.length = 2) then (cEs G N n sc args).map It.rng
      else if f = ("enumerate" : Str) ∧ glB G sc f = true ∧ args.length = 1 ∧ tup = true then (match cEs G N n sc args with
        | some (.cons x .nil) => some (.enum x)
        | _ => none)
      else if f = ("zip" : Str) ∧ glB G sc f = true ∧ args.length = 2 ∧ tup = true then (match cEs G N n sc args with
        | some (.cons x (.cons y .nil)) => some (.zip x y)
        | _ => none)
      else (cE G N n sc (.Call (.Name f p) args [] pos)).map It.seq
    | e => (cE G N n sc e).map It.seq
def cT (G : Gx) (N : List Str) : Nat → (Str → Bool) → Scope → Expr → Option T
  | 0, _, _, _ => none
  | n + 1, ok, sc, e => match e with
    | .Name x _ => if isLoc sc x && ok x then (ixOf N x).map T.nm else none
    | .Tuple es _ _ => (cTs G N n ok sc es).map T.tp
    | .Subscript _ (.Slice ..) _ => none
    | .Subscript o i _ => match cE G N n sc o, cE G N n sc i with
      | some x, some y => some (.sub x y)
      | _, _ => none
    | .Attribute o f _ => if G.flds.contains f then (cE G N n sc o).map fun x => .fld x f else none
    | _ => none
def cTs (G : Gx) (N : List Str) : Nat → (Str → Bool) → Scope → List Expr → Option Ts
  | 0, _, _, _ => none
  | n + 1, ok, sc, es => match es with
    | [] => some .nil
    | e :: r => if nostar e then match cT G N n ok sc e, cTs G N n ok sc r with
      | some x, some xs => some (.cons x xs)
      | _, _ => none
      else none
end

/-! ### statements -/
def nmC (y : Str) : Expr → Bool
  | .ListComp _ _ scope _ => (scope.names.any fun (n, k) => n == y && (k == .local || k == .cell))
  | _ => true
/-- stored from the left -/
def swNone (sc : Scope) (ts : List Expr) : Bool := !(ts.length == 2 || ts.length == 3) || ts.any fun
  | .Name x p => !(sc.names.lookup x == some .local && p.line == (ts.head?.map (·.pos.line)).getD 0)
  | _ => true
mutual
def cS (G : Gx) (N : List Str) : Nat → Scope → Stmt → Option Sm
  | 0, _, _ => none
  | n + 1, sc, st => match st with
    | .Assign [.Name y py] v pos => match cT G N n (isLoc sc) sc (.Name y py), cE G N n sc v with
      | some t, some x => if isComp v then (match sc.names.lookup y with
          | some .local => if py.line = v.pos.line ∧ nmC y v = false then some (.asg t x) else none
          | some .cell => some (.asg t x)
          | _ => none)
        else some (.asg t x)
      | _, _ => none
    | .Assign [.Tuple ts _ _] (.Tuple vs _ _) _ => if ts.length = vs.length then
        (if swNone sc ts = true then (match cTs G N n (isLoc sc) sc ts, cEs G N n sc vs with
          | some t, some x => some (.asg (.tp t) (.tup x))
          | _, _ => none)
        else (match ts, vs with
          | [.Name x px, .Name y py], [a, b] =>
            if sc.names.lookup x = some .local ∧ sc.names.lookup y = some .local ∧ px.line = py.line ∧ [a, b].all (foldedForSure 8) = false ∧ [a, b].all (constantsAlone 8) = false then
              (match ixOf N x, ixOf N y, cEs G N n sc [a, b] with
              | some i, some j, some e => if i ≠ j then some (.par [i, j] e) else none
              | _, _, _ => none)
            else none
          | [.Name x px, .Name y py, .Name z pz], [a, b, c] =>
            if sc.names.lookup x = some .local ∧ sc.names.lookup y = some .local ∧ sc.names.lookup z = some .local ∧ px.line = py.line ∧ px.line = pz.line ∧ [a, b, c].all (foldedForSure 8) = false ∧ [a, b, c].all (constantsAlone 8) = false then
              (match ixOf N x, ixOf N y, ixOf N z, cEs G N n sc [a, b, c] with
              | some i, some j, some l, some e => if i ≠ j ∧ i ≠ l ∧ j ≠ l then some (.par [i, j, l] e) else none
              | _, _, _, _ => none)
            else none
          | _, _ => none))
      else none
    | .Assign [tg] v pos => match tg with
      | .Name .. => none
      | _ => (match v with
        | .Tuple .. => (match tg with
          | .Tuple .. => none
          | .List .. => none
          | _ => (match cT G N n (isLoc sc) sc tg, cE G N n sc v with
            | some t, some x => some (.asg t x)
            | _, _ => none))
        | _ => match cT G N n (isLoc sc) sc tg, cE G N n sc v with
          | some t, some x => some (.asg t x)
          | _, _ => none)
    | .AugAssign (.Name x _) op v _ => if isLoc sc x then (match ixOf N x, op2Of op, cE G N n sc v with
      | some i, some o, some e => (match o with
        | .add => some (.aug i o e)
        | .sub => some (.aug i o e)
        | _ => none)
      | _, _, _ => none)
      else none
    | .AugAssign (.Attribute o f _) op v _ => if G.flds.contains f then (match op2Of op, cE G N n sc o, cE G N n sc v with
      | some p, some x, some e => (match p with
        | .add => some (.augF x f p e)
        | .sub => some (.augF x f p e)
        | _ => none)
      | _, _, _ => none)
      else none
    | .Expr e pos => if isComp e then none else (cE G N n sc e).map Sm.ex
    | .Return none _ => some (.ret .no)
    | .Return (some e) _ => (cE G N n sc e).map fun x => .ret (.yes x)
    | .If c a b _ => match cE G N n sc c, cB G N n sc a, cB G N n sc b with
      | some x, some y, some z => some (.if_ x y z)
      | _, _, _ => none
    | .While c b [] _ => match cE G N n sc c, cB G N n sc b with
      | some x, some y => some (.wh x y)
      | _, _ => none
    | .For tg it b [] _ => match cIt G N n sc (match tg with | .Tuple .. => true | _ => false) it, cT G N n (isLoc sc) sc tg, cB G N n sc b with
      | some i, some t, some y => some (.for_ t i y)
      | _, _, _ => none
    | .Pass _ => some .pass
    | .Break _ => some .brk
    | .Continue _ => some .cont
    | _ => none
def cB (G : Gx) (N : List Str) : Nat → Scope → List Stmt → Option Ss
  | 0, _, _ => none
  | n + 1, sc, sts => match sts with
    | [] => some .nil
    | s :: r => match cS G N n sc s, cB G N n sc r with
      | some x, some y => some (.cons x y)
      | _, _ => none
end
end Mp
set_option Elab.async false
set_option linter.all false
set_option maxRecDepth 100000
set_option maxHeartbeats 1000000
namespace Mp
open PySem PySem.Spec PyProof.Rows L2

/-! ### readings put together -/
section
variable {X : Cx} {c : Cn} {ma mb mc : Sl → M D}
theorem rx_two {g : D → D → M D} {r : R2} (h : ∀ x y H Q, rOp c g x y H Q → r x y H Q) {σ : L2.St} {H : Hp} {Q : VK} (q : Rx c (fun σ => do
    let x ← ma σ
    let y ← mb σ
    g x y) σ H Q) : tOp r (Rx c ma) (Rx c mb) σ H Q := by
  obtain ⟨σd, S, μ, rs, rl, d, S', e, post⟩ := q
  obtain ⟨x, S1, e1, e2⟩ := bind_ok.mp e
  obtain ⟨y, S2, e3, e4⟩ := bind_ok.mp e2
  refine ⟨σd, S, μ, rs, rl, x, S1, e1, fun μ1 H1 v1 st1 r1 q1 => ?_⟩
  refine ⟨σd, S1, μ1, r1, rl.mono rs st1, y, S2, e3, fun μ2 H2 v2 st2 r2 q2 => ?_⟩
  exact h _ _ _ _ ⟨S2, μ2, x, y, r2, q1.mono r1 st2, q2, d, S', e4, post.after (st1.trans st2)⟩
theorem rx_test (ha : PE X a (Rx c ma)) (hK : c.K = X.K) (he : ∀ whole, isTrue a X.env whole = (do let v ← whole; standAt a.pos; holding [v] (truthy v))) : PT X a (RxT c fun σ => test (ma σ)) := by
  refine pt_imp (pt_truth ha he) fun σ H Q q => ?_
  obtain ⟨σd, S, μ, rs, rl, b, S', e, post⟩ := q
  obtain ⟨x, S1, e1, e2⟩ := bind_ok.mp (show (ma σd >>= fun d => rd fun S => truP S d) S = .ok b S' from e)
  obtain ⟨e3, rfl⟩ := rd_ok.mp e2
  exact ⟨σd, S, μ, rs, rl, x, S', e1, fun μ1 H1 v1 st1 r1 q1 => ⟨b, by rw [← hK]; exact truP_rel r1 q1 e3, post _ _ st1 r1⟩⟩
theorem rx_testB {t : TE} (h : PT X a (tTest t)) (i : ∀ σ H Q, Rx c ma σ H Q → t σ H Q) (hb : ∀ σ S d S', ma σ S = .ok d S' → ∃ k, d = .bl k) : PT X a (RxT c fun σ => test (ma σ)) := by
  refine pt_imp h fun σ H Q q => i σ H _ ?_
  obtain ⟨σd, S, μ, rs, rl, b, S', e, post⟩ := q
  obtain ⟨x, S1, e1, e2⟩ := bind_ok.mp (show (ma σd >>= fun d => rd fun S => truP S d) S = .ok b S' from e)
  obtain ⟨e3, rfl⟩ := rd_ok.mp e2
  obtain ⟨k, rfl⟩ := hb _ _ _ _ e1
  simp only [truP, Option.some.injEq] at e3
  subst e3
  exact ⟨σd, S, μ, rs, rl, _, S', e1, fun μ1 H1 v1 st1 r1 q1 => by cases q1; exact ⟨_, rfl, post _ _ st1 r1⟩⟩
theorem rx_one {r : V → Hp → VK → Prop} {g : D → M D} (h : ∀ {x H Q S μ dx d S'}, RelS c μ S H → RelD c μ H dx x → g dx S = .ok d S' → Post c μ H d S' Q → r x H Q) {σ : L2.St} {H : Hp} {Q : VK} (q : Rx c (fun σ => do
    let x ← ma σ
    g x) σ H Q) : tUn r (Rx c ma) σ H Q := by
  obtain ⟨σd, S, μ, rs, rl, d, S', e, post⟩ := q
  obtain ⟨x, S1, e1, e2⟩ := bind_ok.mp e
  exact ⟨σd, S, μ, rs, rl, x, S1, e1, fun μ1 H1 v1 st1 r1 q1 => h r1 q1 e2 (post.after st1)⟩
end

section
variable {X : Cx} {ca : Nat → Addr} {ν : List Addr} {ma mb mc : Sl → M D} {a b e d : Expr} {pos : Pos}

theorem de_loc {i : Nat} {x : Str} {N : List Str} (hX : X.N = N) (hN : N[i]? = some x) (hv : Vis X.env.scope x) (ho : okName x = true) : PE X (.Name x pos) (Rx (cn X ca ν) fun σ => match σ[i]? with
    | some (some d) => pure d
    | _ => fail) := by
  simp only [okName, Bool.and_eq_true, Bool.not_eq_true'] at ho
  refine pe_imp (pe_var (by rw [hX]; exact hN) hv ho.1.1 ho.1.2) fun σ H Q q => ?_
  obtain ⟨σd, S, μ, rs, rl, d, S', e, post⟩ := q
  rcases e1 : σd[i]? with _ | _ | d'
  · simp only [e1] at e; cases e
  · simp only [e1] at e; cases e
  · simp only [e1] at e
    obtain ⟨rfl, rfl⟩ := pure_ok.mp e
    obtain ⟨v, h1, h2⟩ := rl.get e1
    exact ⟨v, h1, post.now rs h2⟩
theorem de_cst {v : V} {dd : D} (h : PE X e (tC v)) (hr : ∀ μ H, RelD (cn X ca ν) μ H dd v) : PE X e (Rx (cn X ca ν) fun _ => pure dd) := by
  refine pe_imp h fun σ H Q q => ?_
  obtain ⟨σd, S, μ, rs, rl, d, S', e, post⟩ := q
  obtain ⟨rfl, rfl⟩ := pure_ok.mp e
  exact post.now rs (hr μ H)
theorem de_bin (o : Op2) (ha : PE X a (Rx (cn X ca ν) ma)) (hb : PE X b (Rx (cn X ca ν) mb)) : PE X (.BinOp a (opOf o) b pos) (Rx (cn X ca ν) fun σ => do
    let x ← ma σ
    let y ← mb σ
    rd fun S => binP S o x y) := pe_imp (pe_op (bin_sound o) ha hb) fun σ H Q q => rx_two (fun _ _ _ _ h => h) q
theorem de_catM (ha : PE X a (Rx (cn X ca ν) ma)) (hb : PE X b (Rx (cn X ca ν) mb)) : PE X (.BinOp a .Add b pos) (Rx (cn X ca ν) fun σ => do
    let x ← ma σ
    let y ← mb σ
    let zs ← rd fun S => catP S x y
    alloc (.lst zs)) := pe_imp (pe_op (cat_sound (ca := ca) (ν := ν)) ha hb) fun σ H Q q => rx_two (fun _ _ _ _ h => h) q
theorem de_cmp (hu : X.A.units + 65 < cLine) (o : Cop) (ha : PE X a (Rx (cn X ca ν) ma)) (hb : PE X b (Rx (cn X ca ν) mb)) (hm : behindInMarks (copOf o) b = false) : PE X (.Compare a [copOf o] [b] pos) (Rx (cn X ca ν) fun σ => do
    let x ← ma σ
    let y ← mb σ
    let k ← rd fun S => cmpP S o x y
    pure (.bl k)) := pe_imp (pe_cmpR (cmp_sound hu o) ha hb hm) fun σ H Q q => rx_two (fun _ _ _ _ h => h) q
theorem dt_cmp (hu : X.A.units + 65 < cLine) (o : Cop) (ha : PE X a (Rx (cn X ca ν) ma)) (hb : PE X b (Rx (cn X ca ν) mb)) (hm : behindInMarks (copOf o) b = false) : PT X (.Compare a [copOf o] [b] pos) (RxT (cn X ca ν) fun σ => test (do
    let x ← ma σ
    let y ← mb σ
    let k ← rd fun S => cmpP S o x y
    pure (.bl k))) := by
  refine rx_testB (pt_cmpR (cmp_sound hu o) ha hb hm) (fun σ H Q q => rx_two (fun _ _ _ _ h => h) q) fun σ S d S' h => ?_
  obtain ⟨x, S1, e1, e2⟩ := bind_ok.mp h
  obtain ⟨y, S2, e3, e4⟩ := bind_ok.mp e2
  obtain ⟨k, S3, e5, e6⟩ := bind_ok.mp e4
  obtain ⟨rfl, _⟩ := pure_ok.mp e6
  exact ⟨k, rfl⟩
theorem rx_chain {o p : Cop} {σ : L2.St} {H : Hp} {Q : VK} (q : Rx (cn X ca ν) (fun σ => do
    let x ← ma σ
    let y ← mb σ
    let k ← rd fun S => cmpP S o x y
    if k then do
      let z ← mc σ
      let k ← rd fun S => cmpP S p y z
      pure (.bl k)
    else pure (.bl false)) σ H Q) : tChain (rBl (cn X ca ν) fun S x y => cmpP S o x y) (rBl (cn X ca ν) fun S x y => cmpP S p x y) (Rx (cn X ca ν) ma) (Rx (cn X ca ν) mb) (Rx (cn X ca ν) mc) σ H Q := by
  obtain ⟨σd, S, μ, rs, rl, d, S', e, post⟩ := q
  obtain ⟨x, S1, e1, e2⟩ := bind_ok.mp e
  obtain ⟨y, S2, e3, e4⟩ := bind_ok.mp e2
  obtain ⟨k, S3, e5, e6⟩ := bind_ok.mp e4
  obtain ⟨e5, rfl⟩ := rd_ok.mp e5
  refine ⟨σd, S, μ, rs, rl, x, S1, e1, fun μ1 H1 v1 st1 r1 q1 => ?_⟩
  refine ⟨σd, S1, μ1, r1, rl.mono rs st1, y, S3, e3, fun μ2 H2 v2 st2 r2 q2 => ?_⟩
  refine ⟨S3, μ2, x, y, r2, q1.mono r1 st2, q2, .bl k, S3, bind_ok.mpr ⟨k, S3, rd_ok.mpr ⟨e5, rfl⟩, rfl⟩, fun μ3 H3 v3 st3 r3 q3 => ?_⟩
  cases q3
  refine ⟨k, rfl, ?_⟩
  have st13 := st1.trans (st2.trans st3)
  cases k with
  | true =>
    rw [if_pos rfl] at e6 ⊢
    obtain ⟨z, S4, e7, e8⟩ := bind_ok.mp e6
    refine ⟨σd, S3, μ3, r3, rl.mono rs st13, z, S4, e7, fun μ4 H4 v4 st4 r4 q4 => ?_⟩
    exact ⟨S4, μ4, y, z, r4, (q2.mono r2 st3).mono r3 st4, q4, d, S', e8, post.after (st13.trans st4)⟩
  | false =>
    rw [if_neg Bool.false_ne_true] at e6 ⊢
    obtain ⟨rfl, rfl⟩ := pure_ok.mp e6
    exact (post.after st13).now r3 (.bl false)
theorem de_chn (hu : X.A.units + 65 < cLine) (o p : Cop) (ha : PE X a (Rx (cn X ca ν) ma)) (hb : PE X b (Rx (cn X ca ν) mb)) (hc : PE X d (Rx (cn X ca ν) mc)) (hm : lastMarks [copOf o, copOf p] [b, d] = false) : PE X (.Compare a [copOf o, copOf p] [b, d] pos) (Rx (cn X ca ν) fun σ => do
    let x ← ma σ
    let y ← mb σ
    let k ← rd fun S => cmpP S o x y
    if k then do
      let z ← mc σ
      let k ← rd fun S => cmpP S p y z
      pure (.bl k)
    else pure (.bl false)) := pe_imp (pe_chain (cmp_sound hu o) (cmp_sound hu p) ha hb hc hm) fun σ H Q q => rx_chain q
theorem dt_chn (hu : X.A.units + 65 < cLine) (o p : Cop) (ha : PE X a (Rx (cn X ca ν) ma)) (hb : PE X b (Rx (cn X ca ν) mb)) (hc : PE X d (Rx (cn X ca ν) mc)) (hm : lastMarks [copOf o, copOf p] [b, d] = false) : PT X (.Compare a [copOf o, copOf p] [b, d] pos) (RxT (cn X ca ν) fun σ => test (do
    let x ← ma σ
    let y ← mb σ
    let k ← rd fun S => cmpP S o x y
    if k then do
      let z ← mc σ
      let k ← rd fun S => cmpP S p y z
      pure (.bl k)
    else pure (.bl false))) := by
  refine rx_testB (pt_chain (cmp_sound hu o) (cmp_sound hu p) ha hb hc hm) (fun σ H Q q => rx_chain q) fun σ S d S' h => ?_
  obtain ⟨x, S1, e1, e2⟩ := bind_ok.mp h
  obtain ⟨y, S2, e3, e4⟩ := bind_ok.mp e2
  obtain ⟨k, S3, e5, e6⟩ := bind_ok.mp e4
  cases k with
  | true =>
    rw [if_pos rfl] at e6
    obtain ⟨z, S4, e7, e8⟩ := bind_ok.mp e6
    obtain ⟨k, S5, e9, e10⟩ := bind_ok.mp e8
    obtain ⟨rfl, _⟩ := pure_ok.mp e10
    exact ⟨k, rfl⟩
  | false =>
    rw [if_neg Bool.false_ne_true] at e6
    obtain ⟨rfl, _⟩ := pure_ok.mp e6
    exact ⟨false, rfl⟩
theorem de_neg (ha : PE X a (Rx (cn X ca ν) ma)) : PE X (.UnaryOp .USub a pos) (Rx (cn X ca ν) fun σ => do
    match ← ma σ with
    | .int i => pure (.int (-i))
    | _ => fail) := pe_imp (pe_un un_neg ha) fun σ H Q q => rx_one (g := fun x => match x with
    | .int i => pure (.int (-i))
    | _ => fail) (fun {x H Q S μ dx d S'} r qx e post => by
      cases qx <;> simp only at e
      all_goals first
        | (cases e; done)
        | (obtain ⟨rfl, rfl⟩ := pure_ok.mp e; exact ⟨_, rfl, post.now r (.int _)⟩)) q
theorem de_not (ha : PE X a (Rx (cn X ca ν) ma)) : PE X (.UnaryOp .Not a pos) (Rx (cn X ca ν) fun σ => do
    let k ← test (ma σ)
    pure (.bl (!k))) := by
  refine pe_imp (pe_notT ha) fun σ H Q q => ?_
  obtain ⟨σd, S, μ, rs, rl, d, S', e, post⟩ := q
  obtain ⟨k, S1, e1, e2⟩ := bind_ok.mp e
  obtain ⟨rfl, rfl⟩ := pure_ok.mp e2
  obtain ⟨x, S2, e3, e4⟩ := bind_ok.mp (show (ma σd >>= fun d => rd fun S => truP S d) S = .ok k _ from e1)
  obtain ⟨e5, rfl⟩ := rd_ok.mp e4
  exact ⟨σd, S, μ, rs, rl, x, _, e3, fun μ1 H1 v1 st1 r1 q1 => ⟨k, truP_rel r1 q1 e5, (post.after st1).now r1 (.bl _)⟩⟩
theorem dt_not (ha : PT X a (RxT (cn X ca ν) fun σ => test (ma σ))) : PT X (.UnaryOp .Not a pos) (RxT (cn X ca ν) fun σ => test (do
    let k ← test (ma σ)
    pure (.bl (!k)))) := by
  refine pt_imp (pt_not ha) fun σ H Q q => ?_
  obtain ⟨σd, S, μ, rs, rl, b, S', e, post⟩ := q
  obtain ⟨x, S1, e1, e2⟩ := bind_ok.mp (show (M.bind _ fun d => rd fun S => truP S d) S = .ok b S' from e)
  obtain ⟨k, S2, e3, e4⟩ := bind_ok.mp e1
  obtain ⟨rfl, rfl⟩ := pure_ok.mp e4
  obtain ⟨e5, rfl⟩ := rd_ok.mp e2
  simp only [truP, Option.some.injEq] at e5
  subst e5
  exact ⟨σd, S, μ, rs, rl, k, _, e3, fun μ1 H1 st1 r1 => post _ _ st1 r1⟩
theorem de_and {rest : List Expr} (ha : PE X a (Rx (cn X ca ν) ma)) (hb : PE X (.BoolOp .And (b :: rest) pos) (Rx (cn X ca ν) mb)) : PE X (.BoolOp .And (a :: b :: rest) pos) (Rx (cn X ca ν) fun σ => do
    let x ← ma σ
    if ← rd fun S => truP S x then mb σ else pure x) := by
  refine pe_imp (pe_andT ha hb) fun σ H Q q => ?_
  obtain ⟨σd, S, μ, rs, rl, d, S', e, post⟩ := q
  obtain ⟨x, S1, e1, e2⟩ := bind_ok.mp e
  obtain ⟨k, S2, e3, e4⟩ := bind_ok.mp e2
  obtain ⟨e3, rfl⟩ := rd_ok.mp e3
  refine ⟨σd, S, μ, rs, rl, x, _, e1, fun μ1 H1 v1 st1 r1 q1 => ⟨k, truP_rel r1 q1 e3, ?_⟩⟩
  cases k with
  | true =>
    rw [if_pos rfl] at e4 ⊢
    exact ⟨σd, _, μ1, r1, rl.mono rs st1, d, S', e4, post.after st1⟩
  | false =>
    rw [if_neg Bool.false_ne_true] at e4 ⊢
    obtain ⟨rfl, rfl⟩ := pure_ok.mp e4
    exact (post.after st1).now r1 q1
theorem de_or {rest : List Expr} (ha : PE X a (Rx (cn X ca ν) ma)) (hb : PE X (.BoolOp .Or (b :: rest) pos) (Rx (cn X ca ν) mb)) : PE X (.BoolOp .Or (a :: b :: rest) pos) (Rx (cn X ca ν) fun σ => do
    let x ← ma σ
    if ← rd fun S => truP S x then pure x else mb σ) := by
  refine pe_imp (pe_orT ha hb) fun σ H Q q => ?_
  obtain ⟨σd, S, μ, rs, rl, d, S', e, post⟩ := q
  obtain ⟨x, S1, e1, e2⟩ := bind_ok.mp e
  obtain ⟨k, S2, e3, e4⟩ := bind_ok.mp e2
  obtain ⟨e3, rfl⟩ := rd_ok.mp e3
  refine ⟨σd, S, μ, rs, rl, x, _, e1, fun μ1 H1 v1 st1 r1 q1 => ⟨k, truP_rel r1 q1 e3, ?_⟩⟩
  cases k with
  | false =>
    rw [if_neg Bool.false_ne_true] at e4 ⊢
    exact ⟨σd, _, μ1, r1, rl.mono rs st1, d, S', e4, post.after st1⟩
  | true =>
    rw [if_pos rfl] at e4 ⊢
    obtain ⟨rfl, rfl⟩ := pure_ok.mp e4
    exact (post.after st1).now r1 q1
theorem test_bind {m : M D} {f : D → M D} {S S' : Sto} {b : Bool} (e : test (m >>= f) S = .ok b S') : ∃ x S1, m S = .ok x S1 ∧ test (f x) S1 = .ok b S' := by
  obtain ⟨d, S1, e1, e2⟩ := bind_ok.mp (show (M.bind (m >>= f) fun d => rd fun S => truP S d) S = .ok b S' from e)
  obtain ⟨x, S2, e3, e4⟩ := bind_ok.mp e1
  exact ⟨x, S2, e3, bind_ok.mpr ⟨d, S1, e4, e2⟩⟩
theorem dw_and {rest : List Expr} (ha : PT X a (RxT (cn X ca ν) fun σ => test (ma σ))) (hb : PW X (.BoolOp .And (b :: rest) pos) (RxT (cn X ca ν) fun σ => test (mb σ))) : PW X (.BoolOp .And (a :: b :: rest) pos) (RxT (cn X ca ν) fun σ => test (do
    let x ← ma σ
    if ← rd fun S => truP S x then mb σ else pure x)) := by
  refine ⟨fun whole pins s σ H Q I q => (pw_and ha hb).run whole pins s σ H Q I ?_⟩
  obtain ⟨σd, S, μ, rs, rl, k0, S', e, post⟩ := q
  obtain ⟨x, S1, e1, e2⟩ := test_bind e
  obtain ⟨d, S2, e3, e4⟩ := bind_ok.mp (show (M.bind _ fun d => rd fun S => truP S d) S1 = .ok k0 S' from e2)
  obtain ⟨k, S3, e5, e6⟩ := bind_ok.mp e3
  obtain ⟨e5, rfl⟩ := rd_ok.mp e5
  refine ⟨σd, S, μ, rs, rl, k, S3, bind_ok.mpr ⟨x, S3, e1, rd_ok.mpr ⟨e5, rfl⟩⟩, fun μ1 H1 st1 r1 => ?_⟩
  cases k with
  | true =>
    rw [if_pos rfl] at e6 ⊢
    exact ⟨σd, _, μ1, r1, rl.mono rs st1, k0, S', bind_ok.mpr ⟨d, S2, e6, e4⟩, fun μ2 H2 st2 r2 => post _ _ (st1.trans st2) r2⟩
  | false =>
    rw [if_neg Bool.false_ne_true] at e6 ⊢
    obtain ⟨rfl, rfl⟩ := pure_ok.mp e6
    obtain ⟨e7, rfl⟩ := rd_ok.mp e4
    rw [e5] at e7
    cases e7
    exact post _ _ st1 r1
theorem dw_or {rest : List Expr} (ha : PT X a (RxT (cn X ca ν) fun σ => test (ma σ))) (hb : PW X (.BoolOp .Or (b :: rest) pos) (RxT (cn X ca ν) fun σ => test (mb σ))) : PW X (.BoolOp .Or (a :: b :: rest) pos) (RxT (cn X ca ν) fun σ => test (do
    let x ← ma σ
    if ← rd fun S => truP S x then pure x else mb σ)) := by
  refine ⟨fun whole pins s σ H Q I q => (pw_or ha hb).run whole pins s σ H Q I ?_⟩
  obtain ⟨σd, S, μ, rs, rl, k0, S', e, post⟩ := q
  obtain ⟨x, S1, e1, e2⟩ := test_bind e
  obtain ⟨d, S2, e3, e4⟩ := bind_ok.mp (show (M.bind _ fun d => rd fun S => truP S d) S1 = .ok k0 S' from e2)
  obtain ⟨k, S3, e5, e6⟩ := bind_ok.mp e3
  obtain ⟨e5, rfl⟩ := rd_ok.mp e5
  refine ⟨σd, S, μ, rs, rl, k, S3, bind_ok.mpr ⟨x, S3, e1, rd_ok.mpr ⟨e5, rfl⟩⟩, fun μ1 H1 st1 r1 => ?_⟩
  cases k with
  | false =>
    rw [if_neg Bool.false_ne_true] at e6 ⊢
    exact ⟨σd, _, μ1, r1, rl.mono rs st1, k0, S', bind_ok.mpr ⟨d, S2, e6, e4⟩, fun μ2 H2 st2 r2 => post _ _ (st1.trans st2) r2⟩
  | true =>
    rw [if_pos rfl] at e6 ⊢
    obtain ⟨rfl, rfl⟩ := pure_ok.mp e6
    obtain ⟨e7, rfl⟩ := rd_ok.mp e4
    rw [e5] at e7
    cases e7
    exact post _ _ st1 r1
theorem de_ite (hc : PT X d (RxT (cn X ca ν) fun σ => test (mc σ))) (ha : PE X a (Rx (cn X ca ν) ma)) (hb : PE X b (Rx (cn X ca ν) mb)) : PE X (.IfExp d a b pos) (Rx (cn X ca ν) fun σ => do
    if ← test (mc σ) then ma σ else mb σ) := by
  refine pe_imp (pe_ifExp hc ha hb) fun σ H Q q => ?_
  obtain ⟨σd, S, μ, rs, rl, d, S', e, post⟩ := q
  obtain ⟨k, S1, e1, e2⟩ := bind_ok.mp e
  refine ⟨σd, S, μ, rs, rl, k, S1, e1, fun μ1 H1 st1 r1 => ?_⟩
  cases k with
  | true =>
    rw [if_pos rfl] at e2 ⊢
    exact ⟨σd, _, μ1, r1, rl.mono rs st1, d, S', e2, post.after st1⟩
  | false =>
    rw [if_neg Bool.false_ne_true] at e2 ⊢
    exact ⟨σd, _, μ1, r1, rl.mono rs st1, d, S', e2, post.after st1⟩
theorem da_nil : PA X [] (RxA (cn X ca ν) fun _ => pure []) := by
  refine pa_imp pa_nil fun σ H Q q => ?_
  obtain ⟨σd, S, μ, rs, rl, ds, S', e, post⟩ := q
  obtain ⟨rfl, rfl⟩ := pure_ok.mp e
  exact post _ _ _ (Step.refl μ H) rs .nil
theorem starEach_cons {e : Expr} {es : List Expr} {env : Env} (h : nostar e = true) : starEach (e :: es) env = (false, eval e env) :: starEach es env := by
  cases e <;> first | rfl | simp [nostar] at h
theorem da_cons {es : List Expr} {me : Sl → M (List D)} (h : nostar a = true) (ha : PE X a (Rx (cn X ca ν) ma)) (hr : PA X es (RxA (cn X ca ν) me)) : PA X (a :: es) (RxA (cn X ca ν) fun σ => do
    let d ← ma σ
    let ds ← me σ
    pure (d :: ds)) := by
  refine pa_imp (pa_cons ha hr (starEach_cons h)) fun σ H Q q => ?_
  obtain ⟨σd, S, μ, rs, rl, ds, S', e, post⟩ := q
  obtain ⟨x, S1, e1, e2⟩ := bind_ok.mp e
  obtain ⟨xs, S2, e3, e4⟩ := bind_ok.mp e2
  obtain ⟨rfl, rfl⟩ := pure_ok.mp e4
  refine ⟨σd, S, μ, rs, rl, x, S1, e1, fun μ1 H1 v1 st1 r1 q1 => ⟨σd, S1, μ1, r1, rl.mono rs st1, xs, _, e3, fun μ2 H2 vs st2 r2 q2 => ?_⟩⟩
  exact post _ _ _ (st1.trans st2) r2 (.cons (q1.mono r1 st2) q2)
theorem capped_ok {ds es : List D} {S S' : Sto} (e : capped ds S = .ok es S') : ds = es ∧ S = S' ∧ ds.length ≤ sizeLine := by
  unfold capped at e
  split at e
  · obtain ⟨h1, h2⟩ := pure_ok.mp e
    exact ⟨h1, h2, by assumption⟩
  · cases e
variable {es : List Expr} {me : Sl → M (List D)}
theorem de_tup {k : Nat} (ha : PA X es (RxA (cn X ca ν) me)) : PE X (.Tuple es k pos) (Rx (cn X ca ν) fun σ => do
    let ds ← me σ
    let ds ← capped ds
    pure (.tup ds)) := by
  refine pe_imp (pe_tup ha) fun σ H Q q => ?_
  obtain ⟨σd, S, μ, rs, rl, d, S', e, post⟩ := q
  obtain ⟨xs, S1, e1, e2⟩ := bind_ok.mp e
  obtain ⟨ys, S2, e3, e4⟩ := bind_ok.mp e2
  obtain ⟨rfl, rfl, hl⟩ := capped_ok e3
  obtain ⟨rfl, rfl⟩ := pure_ok.mp e4
  refine ⟨σd, S, μ, rs, rl, xs, _, e1, fun μ1 H1 vs st1 r1 q1 => ⟨by rw [← q1.length]; exact hl, fun p hp => (post.after st1).newTup r1 hp q1⟩⟩
theorem alloc_ok {o : Ob} {d : D} {S S' : Sto} (e : alloc o S = .ok d S') : d = .hd S.length ∧ S' = S ++ [o] := by
  unfold alloc at e
  cases e
  exact ⟨rfl, rfl⟩
/-- a new object becomes a handle -/
theorem Post.handle {c : Cn} {μ : List Addr} {S : Sto} {H : Hp} {Q : VK} {p : Addr} {o : Ob} {ho : HO} (post : Post c μ H (.hd S.length) (S ++ [o]) Q) (r : RelS c μ S H) (hp : H p = none) (q : RelO c μ H o ho) : Q (.ref p) (upd H p ho) := by
  have st := r.push hp q
  refine post _ _ _ st.1 st.2 (.hd ?_)
  rw [← r.len]
  simp
theorem de_lst {m : Bool} (ha : PA X es (RxA (cn X ca ν) me)) : PE X (.List es pos) (Rx (cn X ca ν) fun σ => do
    let ds ← me σ
    let ds ← capped ds
    if m then alloc (.lst ds) else pure (.lst ds)) := by
  refine pe_imp (pe_lst ha) fun σ H Q q => ?_
  obtain ⟨σd, S, μ, rs, rl, d, S', e, post⟩ := q
  obtain ⟨xs, S1, e1, e2⟩ := bind_ok.mp e
  obtain ⟨ys, S2, e3, e4⟩ := bind_ok.mp e2
  obtain ⟨rfl, rfl, hl⟩ := capped_ok e3
  refine ⟨σd, S, μ, rs, rl, xs, _, e1, fun μ1 H1 vs st1 r1 q1 => ⟨by rw [← q1.length]; exact hl, fun p hp => ?_⟩⟩
  cases m with
  | true =>
    obtain ⟨rfl, rfl⟩ := alloc_ok e4
    exact (post.after st1).handle r1 hp ⟨vs, rfl, q1⟩
  | false =>
    obtain ⟨rfl, rfl⟩ := pure_ok.mp e4
    exact (post.after st1).newLst r1 hp q1
theorem de_dnK : PE X (.Dict [] [] pos) (Rx (cn X ca ν) fun _ => alloc (.dk [])) := by
  refine pe_imp pe_dnewK fun σ H Q q => ?_
  obtain ⟨σd, S, μ, rs, rl, d, S', e, post⟩ := q
  obtain ⟨rfl, rfl⟩ := alloc_ok e
  exact fun p hp => post.handle rs hp ⟨[], rfl, .nil⟩
theorem de_dnT : PE X (.Dict [] [] pos) (Rx (cn X ca ν) fun _ => alloc (.dt [])) := by
  refine pe_imp pe_dnewT fun σ H Q q => ?_
  obtain ⟨σd, S, μ, rs, rl, d, S', e, post⟩ := q
  obtain ⟨rfl, rfl⟩ := alloc_ok e
  exact fun p hp => post.handle rs hp ⟨[], rfl, .nil⟩
def notSl : Expr → Bool
  | .Slice .. => false
  | _ => true
theorem plainIx {i : Expr} (h : notSl i = true) : PlainIx i := by
  cases i <;> first | (intro o j; rfl) | simp [notSl] at h
theorem de_ix (hu : X.A.units + 65 < cLine) (ha : PE X a (Rx (cn X ca ν) ma)) (hb : PE X b (Rx (cn X ca ν) mb)) (h : notSl b = true) : PE X (.Subscript a b pos) (Rx (cn X ca ν) fun σ => do
    let x ← ma σ
    let y ← mb σ
    rd fun S => ixP S x y) := pe_imp (pe_ix (ix_sound hu) ha hb (plainIx h)) fun σ H Q q => rx_two (fun _ _ _ _ h => h) q
def RxO (c : Cn) (m : Sl → M (Option Int)) : TO := fun σ H Q => ∃ σd S μ, RelS c μ S H ∧ RelSl c μ H σd σ ∧ ∃ o S', m σd S = .ok o S' ∧ ∀ μ' H', Step μ H μ' H' → RelS c μ' S' H' → Q o H'
theorem do_no : PO X none (RxO (cn X ca ν) fun _ => pure none) := by
  refine ⟨fun pins s σ H Q I q => po_none.run pins s σ H Q I ?_⟩
  obtain ⟨σd, S, μ, rs, rl, o, S', e, post⟩ := q
  obtain ⟨rfl, rfl⟩ := pure_ok.mp e
  exact post _ _ (Step.refl μ H) rs
theorem do_yes (ha : PE X a (Rx (cn X ca ν) ma)) : PO X (some a) (RxO (cn X ca ν) fun σ => do
    match ← ma σ with
    | .int i => pure (some i)
    | _ => fail) := by
  refine ⟨fun pins s σ H Q I q => (po_some ha).run pins s σ H Q I ?_⟩
  obtain ⟨σd, S, μ, rs, rl, o, S', e, post⟩ := q
  obtain ⟨x, S1, e1, e2⟩ := bind_ok.mp e
  refine ⟨σd, S, μ, rs, rl, x, S1, e1, fun μ1 H1 v1 st1 r1 q1 => ?_⟩
  cases q1 <;> simp only at e2
  all_goals first
    | (cases e2; done)
    | (obtain ⟨rfl, rfl⟩ := pure_ok.mp e2; exact ⟨_, rfl, post _ _ st1 r1⟩)
theorem de_sl {lo hi : Option Expr} {ml mh : Sl → M (Option Int)} {p2 : Pos} (ha : PE X a (Rx (cn X ca ν) ma)) (hl : PO X lo (RxO (cn X ca ν) ml)) (hh : PO X hi (RxO (cn X ca ν) mh)) : PE X (.Subscript a (.Slice lo hi none p2) pos) (Rx (cn X ca ν) fun σ => do
    let x ← ma σ
    let l ← ml σ
    let h ← mh σ
    rd fun S => slP S x l h) := by
  refine pe_imp (pe_slice (sl_sound (ca := ca) (ν := ν)) ha hl hh) fun σ H Q q => ?_
  obtain ⟨σd, S, μ, rs, rl, d, S', e, post⟩ := q
  obtain ⟨x, S1, e1, e2⟩ := bind_ok.mp e
  obtain ⟨l, S2, e3, e4⟩ := bind_ok.mp e2
  obtain ⟨h, S3, e5, e6⟩ := bind_ok.mp e4
  obtain ⟨e6, rfl⟩ := rd_ok.mp e6
  refine ⟨σd, S, μ, rs, rl, x, S1, e1, fun μ1 H1 v1 st1 r1 q1 => ?_⟩
  refine ⟨σd, S1, μ1, r1, rl.mono rs st1, l, S2, e3, fun μ2 H2 st2 r2 => ?_⟩
  refine ⟨σd, S2, μ2, r2, (rl.mono rs st1).mono r1 st2, h, _, e5, fun μ3 H3 st3 r3 => ?_⟩
  exact ⟨_, μ3, x, r3, (q1.mono r1 st2).mono r2 st3, d, e6, post.after (st1.trans (st2.trans st3))⟩
theorem base_plain {o : Expr} {f : Str} {env : Env} {w : Sem Value} (h : plainB o = true) : attributeBase o f env w = w := by
  unfold attributeBase
  cases o with
  | Call fn args kws p =>
    cases fn with
    | Name id p' =>
      cases args with
      | nil =>
        cases kws with
        | nil => simp [plainB] at h
        | cons _ _ => rfl
      | cons _ _ => rfl
    | _ => rfl
  | _ => rfl
theorem de_fld {f : Str} (hC : ∀ n, Cls X.K (ca n) ∧ NoAttr X.K (ca n) f) (hp : plainB a = true) (ha : PE X a (Rx (cn X ca ν) ma)) : PE X (.Attribute a f pos) (Rx (cn X ca ν) fun σ => do
    let x ← ma σ
    rd fun S => fldP S x f) := by
  refine pe_imp (pe_fld ha (base_plain hp)) fun σ H Q q => ?_
  obtain ⟨σd, S, μ, rs, rl, d, S', e, post⟩ := q
  obtain ⟨x, S1, e1, e2⟩ := bind_ok.mp e
  obtain ⟨e2, rfl⟩ := rd_ok.mp e2
  refine ⟨σd, S, μ, rs, rl, x, _, e1, fun μ1 H1 v1 st1 r1 q1 => ?_⟩
  unfold fldP at e2
  split at e2
  · rename_i n
    split at e2
    · rename_i Ci fs hn
      cases q1 with
      | hd hm =>
        obtain ⟨ho, h1, dx, vs, e3, h2⟩ := r1.obj hn hm
        subst e3
        obtain ⟨v, h3, h4⟩ := (ins_look (f := f) (d := d) h2).1 d e2
        exact ⟨_, ca Ci, dx, vs, v, rfl, h1, (hC Ci).1, (hC Ci).2, h3, (post.after st1).now r1 h4⟩
    · cases e2
  · cases e2
end
end Mp
set_option Elab.async false
set_option linter.all false
set_option maxRecDepth 100000
set_option maxHeartbeats 1000000
namespace Mp
open PySem PySem.Spec PyProof.Rows L2

theorem star_none {env : Env} {pos : Pos} : ∀ {es : List Expr}, es.all nostar = true → (backTo pos (starEach es env)).any (·.1) = false
  | [], _ => rfl
  | e :: es, h => by
    rw [List.all_cons, Bool.and_eq_true] at h
    rw [starEach_cons h.1]
    show (false || (backTo pos (starEach es env)).any (·.1)) = false
    rw [star_none h.2]; rfl
theorem star_all {env : Env} {pos : Pos} {es : List Expr} (h : es.all nostar = true) : (backTo pos (starEach es env)).all (fun x => !x.1) = true := by
  have := star_none (env := env) (pos := pos) h
  rw [List.all_eq_not_any_not]
  simp only [Bool.not_not]
  rw [this]; rfl
/-- the promise of a def that is told by a function on data -/
def spD (X : Cx) (ca : Nat → Addr) (g : List D → M D) : Sp := fun vs H Q _ => ∃ ν S μ ds, RelS (cn X ca ν) μ S H ∧ RelDs (cn X ca ν) μ H ds vs ∧ ∃ d S', g ds S = .ok d S' ∧ Post (cn X ca ν) μ H d S' Q
section
variable {X : Cx} {ca : Nat → Addr} {ν : List Addr} {ma mb mc : Sl → M D} {me : Sl → M (List D)} {a b e d : Expr} {es : List Expr} {pos p apos : Pos} {x : Str}

theorem rx_args {g : List D → M D} {r : List V → Hp → VK → Prop} (h : ∀ vs H Q, (∃ S μ ds, RelS (cn X ca ν) μ S H ∧ RelDs (cn X ca ν) μ H ds vs ∧ ∃ d S', g ds S = .ok d S' ∧ Post (cn X ca ν) μ H d S' Q) → r vs H Q) {σ : L2.St} {H : Hp} {Q : VK} (q : Rx (cn X ca ν) (fun σ => do
    let ds ← me σ
    g ds) σ H Q) : RxA (cn X ca ν) me σ H fun vs H1 => r vs H1 Q := by
  obtain ⟨σd, S, μ, rs, rl, d, S', e, post⟩ := q
  obtain ⟨xs, S1, e1, e2⟩ := bind_ok.mp e
  exact ⟨σd, S, μ, rs, rl, xs, S1, e1, fun μ1 H1 vs st1 r1 q1 => h _ _ _ ⟨S1, μ1, xs, r1, q1, d, S', e2, post.after st1⟩⟩
theorem rxA_nil {σ : L2.St} {H : Hp} {Q : List V → Hp → Prop} (q : RxA (cn X ca ν) (fun _ => pure []) σ H Q) : tNil σ H Q := by
  obtain ⟨σd, S, μ, rs, rl, ds, S', e, post⟩ := q
  obtain ⟨rfl, rfl⟩ := pure_ok.mp e
  exact post _ _ _ (Step.refl μ H) rs .nil
/-- f(..) -/
theorem de_call {k : Nat} {f : Addr} {fd : FuncData} {ps : List Str} {g : List D → M D} (hg : Gl X x) (ho : okName x = true) (hm : X.mg x = some (.ref f)) (hk : PySem.W.keepIn X.K (.ref f) = true)
    (F : FnOk X.prog X.w X.K X.mg X.base CX0 k f fd ps (spD X ca g)) (hr : Room k X.A) (hb : Binds X.K fd ps []) (hs : (a :: es).all nostar = true) (ha : PA X (a :: es) (RxA (cn X ca ν) me)) :
    PE X (.Call (.Name x p) (a :: es) [] pos) (Rx (cn X ca ν) fun σ => do
      let ds ← me σ
      g ds) := by
  simp only [okName, Bool.and_eq_true, Bool.not_eq_true'] at ho
  rw [List.all_cons, Bool.and_eq_true] at hs
  refine pe_imp (pe_call F hr hg hm hk hb .nil pass0 ha ho.1.1 (starEach_cons hs.1) (star_none hs.2)) fun σ H Q q => ?_
  refine rx_args (r := fun vs H1 Q => spD X ca g (vs ++ []) H1 Q E0) (fun vs H Q h => ?_) q
  obtain ⟨S, μ, ds, r, q, d, S', e, post⟩ := h
  rw [List.append_nil]
  exact ⟨ν, S, μ, ds, r, q, d, S', e, post⟩
theorem de_call0 {k : Nat} {f : Addr} {fd : FuncData} {ps : List Str} {g : List D → M D} (hg : Gl X x) (ho : okName x = true) (hm : X.mg x = some (.ref f)) (hk : PySem.W.keepIn X.K (.ref f) = true)
    (F : FnOk X.prog X.w X.K X.mg X.base CX0 k f fd ps (spD X ca g)) (hr : Room k X.A) (hb : Binds X.K fd ps []) :
    PE X (.Call (.Name x p) [] [] pos) (Rx (cn X ca ν) fun σ => do
      let ds ← pure []
      g ds) := by
  simp only [okName, Bool.and_eq_true, Bool.not_eq_true'] at ho
  refine pe_imp (pe_call0 F hr hg hm hk hb .nil pass0 ho.1.1) fun σ H Q q => ?_
  refine rxA_nil (X := X) (ca := ca) (ν := ν) (rx_args (me := fun _ => pure []) (r := fun vs H1 Q => spD X ca g (vs ++ []) H1 Q E0) (fun vs H Q h => ?_) q)
  obtain ⟨S, μ, ds, r, q, d, S', e, post⟩ := h
  rw [List.append_nil]
  exact ⟨ν, S, μ, ds, r, q, d, S', e, post⟩
/-- C(..) -/
theorem new_read {C : Nat} {g : List D → M D} {vs : List V} {H : Hp} {Q : VK} (h : ∃ S μ ds, RelS (cn X ca ν) μ S H ∧ RelDs (cn X ca ν) μ H ds vs ∧ ∃ d S', (do
      let x ← alloc (.ins C [])
      match ← g (x :: ds) with
      | .non => pure x
      | _ => fail) S = .ok d S' ∧ Post (cn X ca ν) μ H d S' Q) : ∀ x dx, H x = none → H dx = none → dx ≠ x →
      spD X ca g (.ref x :: (vs ++ [])) (upd (upd H dx (.own x)) x (.ins (ca C) dx [])) (fun v H2 => v = .non ∧ Q (.ref x) H2) E0 := by
  intro x dx hx hdx hne
  obtain ⟨S, μ, ds, r, q, d, S', e, post⟩ := h
  obtain ⟨y, S1, e1, e2⟩ := bind_ok.mp e
  obtain ⟨rfl, rfl⟩ := alloc_ok e1
  obtain ⟨z, S2, e3, e4⟩ := bind_ok.mp e2
  have a1 := r.add (ho := .own x) hdx
  have hx1 : upd H dx (.own x) x = none := by rw [upd_ne (Ne.symm hne)]; exact hx
  have a2 := a1.2.push (o := .ins C []) (ho := .ins (ca C) dx []) hx1 ⟨dx, [], rfl, .nil⟩
  have st := a1.1.trans a2.1
  rw [List.append_nil]
  refine ⟨ν, _, _, .hd S.length :: ds, a2.2, .cons (.hd ?_) (q.mono r st), z, S2, e3, fun μ' H' v st' r' q' => ?_⟩
  · rw [← r.len]; simp
  · cases z with
    | non =>
      obtain ⟨rfl, rfl⟩ := pure_ok.mp e4
      cases q'
      refine ⟨rfl, post _ _ _ (st.trans st') r' (.hd (get_pre st'.pre ?_))⟩
      rw [← r.len]; simp
    | _ => cases e4
theorem de_new {k : Nat} {C : Nat} {f : Addr} {fd : FuncData} {ps : List Str} {g : List D → M D} (hg : Gl X x) (ho : okName x = true) (hm : X.mg x = some (.ref (ca C))) (M : Mk X.K (ca C) f)
    (F : FnOk X.prog X.w X.K X.mg X.base CX0 k f fd ps (spD X ca g)) (hr : Room (k + 1) X.A) (hb : Binds X.K fd ps []) (hs : (a :: es).all nostar = true) (ha : PA X (a :: es) (RxA (cn X ca ν) me)) :
    PE X (.Call (.Name x p) (a :: es) [] pos) (Rx (cn X ca ν) fun σ => do
      let ds ← me σ
      let x ← alloc (.ins C [])
      match ← g (x :: ds) with
      | .non => pure x
      | _ => fail) := by
  simp only [okName, Bool.and_eq_true, Bool.not_eq_true'] at ho
  rw [List.all_cons, Bool.and_eq_true] at hs
  refine pe_imp (pe_make M F hr hg hm hb .nil pass0 ha ho.1.1 (starEach_cons hs.1) (star_none hs.2)) fun σ H Q q => ?_
  exact rx_args (r := fun vs H1 Q => ∀ x dx, H1 x = none → H1 dx = none → dx ≠ x → spD X ca g (.ref x :: (vs ++ [])) (upd (upd H1 dx (.own x)) x (.ins (ca C) dx [])) (fun v H2 => v = .non ∧ Q (.ref x) H2) E0) (fun vs H Q h => new_read h) q
theorem de_new0 {k : Nat} {C : Nat} {f : Addr} {fd : FuncData} {ps : List Str} {g : List D → M D} (hg : Gl X x) (ho : okName x = true) (hm : X.mg x = some (.ref (ca C))) (M : Mk X.K (ca C) f)
    (F : FnOk X.prog X.w X.K X.mg X.base CX0 k f fd ps (spD X ca g)) (hr : Room (k + 1) X.A) (hb : Binds X.K fd ps []) :
    PE X (.Call (.Name x p) [] [] pos) (Rx (cn X ca ν) fun σ => do
      let ds ← pure []
      let x ← alloc (.ins C [])
      match ← g (x :: ds) with
      | .non => pure x
      | _ => fail) := by
  simp only [okName, Bool.and_eq_true, Bool.not_eq_true'] at ho
  refine pe_imp (pe_make0 M F hr hg hm hb .nil pass0 ho.1.1) fun σ H Q q => ?_
  exact rxA_nil (X := X) (ca := ca) (ν := ν) (rx_args (me := fun _ => pure []) (r := fun vs H1 Q => ∀ x dx, H1 x = none → H1 dx = none → dx ≠ x → spD X ca g (.ref x :: (vs ++ [])) (upd (upd H1 dx (.own x)) x (.ins (ca C) dx [])) (fun v H2 => v = .non ∧ Q (.ref x) H2) E0) (fun vs H Q h => new_read h) q)
/-- the tree of a method's call -/
theorem meth_tree {o : Expr} {m : Str} {args : List Expr} {env : Env} (hp : plainB o = true) (hl : apos.endLine = pos.line) (hn : args.length < 29) (hs : args.all nostar = true) :
    eval (.Call (.Attribute o m apos) args [] pos) env = (do
      let ov ← eval o env
      standAt apos.atName
      let (f, first) ← holding [ov] (getMethod ov m (do return (← importBound o env).getD true))
      callWith pos f first (backTo pos (starEach args env)) (backToKw pos (keywordEach [] env))) := by
  have hform : methodCallForm (args.length + ([] : List Keyword).length) (backTo pos (starEach args env)) (backToKw pos (keywordEach [] env)) = true := by
    unfold methodCallForm
    rw [star_all hs]
    simp [keywordEach, backToKw]
    omega
  rw [arm_eval_Call, base_plain hp]
  unfold methodCall
  rw [hform]
  have hpos : methodCallPos true o env apos pos = pure pos := by
    unfold methodCallPos
    simp [hl]
  rw [hpos]
  rfl

/-- what a method's call asks -/
def MethOk (X : Cx) (ca : Nat → Addr) (meth : Nat → Option Nat) (call : Nat → List D → M D) (m : Str) : Prop := ∀ C i, meth C = some i → Cls X.K (ca C) ∧ ∃ (k : Nat) (f : Addr) (fd : FuncData) (ps : List Str), Meth X.K (ca C) m f ∧
  FnOk X.prog X.w X.K X.mg X.base CX0 k f fd ps (spD X ca (call i)) ∧ Room k X.A ∧ Binds X.K fd ps []
def recvC (m : Str) (x : D) : M Nat := rd fun S => match x with
  | .hd n => match S[n]? with
    | some (.ins C fs) => if (fs.lookup m).isNone then some C else none
    | _ => none
  | _ => none
theorem recvC_rel {m : Str} {x : D} {S S' : Sto} {C : Nat} {μ : List Addr} {H : Hp} {v : V} (e : recvC m x S = .ok C S') (r : RelS (cn X ca ν) μ S H) (q : RelD (cn X ca ν) μ H x v) :
    S = S' ∧ ∃ a dx fs, v = .ref a ∧ H a = some (.ins (ca C) dx fs) ∧ fs.lookup m = none := by
  obtain ⟨e, rfl⟩ := rd_ok.mp e
  refine ⟨rfl, ?_⟩
  split at e
  · rename_i n
    split at e
    · rename_i C' fs hn
      split at e
      · rename_i hl
        cases e
        cases q with
        | hd hm =>
          obtain ⟨ho, h1, dx, vs, e3, h2⟩ := r.obj hn hm
          subst e3
          refine ⟨_, dx, vs, rfl, h1, (ins_look (f := m) (d := .non) h2).2 ?_⟩
          cases e4 : fs.lookup m with
          | none => rfl
          | some _ => rw [e4] at hl; cases hl
      · cases e
    · cases e
  · cases e
theorem de_meth {m : Str} {meth : Nat → Option Nat} {call : Nat → List D → M D} (hM : MethOk X ca meth call m) (hp : plainB a = true) (hl : apos.endLine = pos.line) (hn : es.length < 29) (hs : es.all nostar = true)
    (ho : PE X a (Rx (cn X ca ν) ma)) (ha : PA X es (RxA (cn X ca ν) me)) (hme : es = [] → me = fun _ => pure []) : PE X (.Call (.Attribute a m apos) es [] pos) (Rx (cn X ca ν) fun σ => do
      let x ← ma σ
      let C ← recvC m x
      let ds ← me σ
      match meth C with
      | some f => call f (x :: ds)
      | none => fail) := by
  refine ⟨fun pins s σ H Q I q => ?_⟩
  obtain ⟨σd, S, μ, rs, rl, d, S', e, post⟩ := q
  obtain ⟨x, S1, e1, e2⟩ := bind_ok.mp e
  obtain ⟨C, S2, e3, e4⟩ := bind_ok.mp e2
  obtain ⟨ds, S3, e5, e6⟩ := bind_ok.mp e4
  cases hm : meth C with
  | none => rw [hm] at e6; cases e6
  | some i =>
    rw [hm] at e6
    obtain ⟨cl, k, f, fd, ps, M, F, hr, hb⟩ := hM C i hm
    have read : ∀ t : TA, (∀ σ H Q, RxA (cn X ca ν) me σ H Q → t σ H Q) → tMeth (ca C) m (spD X ca (call i)) [] E0 (Rx (cn X ca ν) ma) t σ H Q := fun t ht => by
      refine ⟨σd, S, μ, rs, rl, x, S1, e1, fun μ1 H1 v1 st1 r1 q1 => ?_⟩
      obtain ⟨rfl, a', dx, fs, rfl, h1, h2⟩ := recvC_rel e3 r1 q1
      refine ⟨a', dx, fs, rfl, h1, h2, ht _ _ _ ⟨σd, S1, μ1, r1, rl.mono rs st1, ds, S3, e5, fun μ2 H2 vs st2 r2 q2 => ?_⟩⟩
      show spD X ca (call i) (V.ref a' :: (vs ++ [])) H2 Q E0
      rw [List.append_nil]
      exact ⟨ν, S3, μ2, x :: ds, r2, .cons (q1.mono r1 st2) q2, d, S', e6, post.after (st1.trans st2)⟩
    cases es with
    | nil => exact (pe_meth0 ho cl M F hr hb .nil pass0 (meth_tree hp hl hn hs)).run pins s σ H Q I (read tNil fun σ H Q q => by
        rw [hme rfl] at q
        exact rxA_nil q)
    | cons e es =>
      rw [List.all_cons, Bool.and_eq_true] at hs
      exact (pe_meth ho cl M F hr hb .nil pass0 ha (starEach_cons hs.1) (star_none hs.2) (meth_tree hp hl hn (by rw [List.all_cons, Bool.and_eq_true]; exact hs))).run pins s σ H Q I (read _ fun _ _ _ h => h)

/-! ### built-in functions, methods -/
theorem bi_boot : ∀ b : Bi, bootBuiltins (biNm b) = some (biVal b)
  | .len => PySem.boot_len | .int => PyProof.Rows.boot_int | .bool => PyProof.Rows.boot_bool | .str => PyProof.Rows.boot_str | .abs => PyProof.Rows.boot_abs | .max2 => PyProof.Rows.boot_max | .min2 => PyProof.Rows.boot_min | .max1 => PyProof.Rows.boot_max
  | .min1 => PyProof.Rows.boot_min | .sum => PyProof.Rows.boot_sum | .all => PyProof.Rows.boot_all | .any => PyProof.Rows.boot_any | .tuple => PyProof.Rows.boot_tuple
theorem bf_boot : ∀ b : Bf, bootBuiltins (bfNm b) = some (bfVal b)
  | .list => PyProof.Rows.boot_list | .sorted => PyProof.Rows.boot_sorted
theorem ty_boot : ∀ t : Ty, bootBuiltins (tyStr t) = some (.type (tyName t))
  | .int => PyProof.Rows.boot_int | .bool => PyProof.Rows.boot_bool | .str => PyProof.Rows.boot_str | .tuple => PyProof.Rows.boot_tuple | .list => PyProof.Rows.boot_list | .dict => PyProof.Rows.boot_dict
theorem isi_boot : bootBuiltins "isinstance" = some (.builtin "isinstance") := PyProof.Rows.boot_isinstance
theorem ok_names : (∀ b : Bi, okName (biNm b) = true) ∧ (∀ b : Bf, okName (bfNm b) = true) ∧ (∀ t : Ty, okName (tyStr t) = true) ∧ okName "isinstance" = true ∧ okName "dict" = true :=
  ⟨fun b => (by cases b <;> decide), fun b => (by cases b <;> decide), fun b => (by cases b <;> decide), by decide, by decide⟩
theorem callV {f : Value} {r : List V → Hp → VK → Prop} {t : TA} (hf : (∃ id, f = .builtin id) ∨ ∃ T, f = .type T) (hc : CallR X f r) (hg : Gl X x) (ho : okName x = true) (hm : X.mg x = none) (hv : bootBuiltins x = some f) (hs : (a :: es).all nostar = true) (ha : PA X (a :: es) t) :
    PE X (.Call (.Name x p) (a :: es) [] pos) (tCB r t) := by
  simp only [okName, Bool.and_eq_true, Bool.not_eq_true', beq_eq_false_iff_ne] at ho
  have h1 : (x == ("__debug__" : Str)) = false := beq_eq_false_iff_ne.mpr ho.1.1
  rw [List.all_cons, Bool.and_eq_true] at hs
  rcases hf with ⟨id, rfl⟩ | ⟨T, rfl⟩
  · exact pe_callB hc hg hm hv ha ho.2 h1 (starEach_cons hs.1) (star_none hs.2)
  · exact pe_callTy hc hg hm hv ha ho.2 h1 (starEach_cons hs.1) (star_none hs.2)
theorem de_bi (hc : X.calm = true) (b : Bi) (hg : Gl X (biNm b)) (hm : X.mg (biNm b) = none) (hs : (a :: es).all nostar = true) (ha : PA X (a :: es) (RxA (cn X ca ν) me)) :
    PE X (.Call (.Name (biNm b) p) (a :: es) [] pos) (Rx (cn X ca ν) fun σ => do
      let ds ← me σ
      rd fun S => biP S b ds) :=
  pe_imp (callV (by cases b <;> first | exact .inl ⟨_, rfl⟩ | exact .inr ⟨_, rfl⟩) (bi_sound (ca := ca) (ν := ν) hc b) hg (ok_names.1 b) hm (bi_boot b) hs ha) fun σ H Q q => rx_args (fun vs H Q h => h) q
theorem de_bf (hcalm : X.calm = true) {m : Bool} (b : Bf) (hg : Gl X (bfNm b)) (hm : X.mg (bfNm b) = none) (hs : (a :: es).all nostar = true) (ha : PA X (a :: es) (RxA (cn X ca ν) me)) :
    PE X (.Call (.Name (bfNm b) p) (a :: es) [] pos) (Rx (cn X ca ν) fun σ => do
      let ds ← me σ
      let ys ← rd fun S => bfP S b ds
      if m then alloc (.lst ys) else pure (.lst ys)) := by
  refine pe_imp (callV (by cases b <;> first | exact .inl ⟨_, rfl⟩ | exact .inr ⟨_, rfl⟩) (bf_sound (ca := ca) (ν := ν) hcalm b) hg (ok_names.2.1 b) hm (bf_boot b) hs ha) fun σ H Q q => ?_
  refine rx_args (g := fun ds => do
      let ys ← rd fun S => bfP S b ds
      if m then alloc (.lst ys) else pure (.lst ys)) (fun vs H Q h => ?_) q
  obtain ⟨S, μ, ds, r, q, d, S', e, post⟩ := h
  obtain ⟨ys, S1, e1, e2⟩ := bind_ok.mp e
  obtain ⟨e1, rfl⟩ := rd_ok.mp e1
  refine ⟨_, μ, ds, r, q, ys, e1, fun vs p rs hp => ?_⟩
  cases m with
  | true =>
    obtain ⟨rfl, rfl⟩ := alloc_ok e2
    exact post.handle r hp ⟨vs, rfl, rs⟩
  | false =>
    obtain ⟨rfl, rfl⟩ := pure_ok.mp e2
    exact post.newLst r hp rs
theorem de_bm (hu : X.A.units + 65 < cLine) (m : Bm) (hp : plainB a = true) (hl : apos.endLine = pos.line) (hn : es.length < 29) (hs : es.all nostar = true)
    (ho : PE X a (Rx (cn X ca ν) ma)) (ha : PA X es (RxA (cn X ca ν) me)) (hme : es = [] → me = fun _ => pure []) : PE X (.Call (.Attribute a (bmNm m) apos) es [] pos) (Rx (cn X ca ν) fun σ => do
      let x ← ma σ
      let _ ← rd fun S => recvP S m x
      let ds ← me σ
      stpD fun S => bmP S m x ds) := by
  have pa : PlainAttrs "list" := PySem.F.plainAttrs_list
  have slot : Slot "list" (bmNm m) (bmVal m) := by
    cases m
    · exact PySem.F.slot_list_append
    · exact PySem.F.slot_list_extend
    · exact PySem.F.slot_list_pop
    · exact PySem.F.slot_list_index
  have hty : typeOf (.builtin (bmVal m)) = pure (.type "method_descriptor") := by
    cases m
    · exact PySem.F.type_list_append
    · exact PySem.F.type_list_extend
    · exact PySem.F.type_list_pop
    · exact PySem.F.type_list_index
  refine ⟨fun pins s σ H Q I q => ?_⟩
  obtain ⟨σd, S, μ, rs, rl, d, S', e, post⟩ := q
  obtain ⟨x, S1, e1, e2⟩ := bind_ok.mp e
  obtain ⟨_, S2, e3, e4⟩ := bind_ok.mp e2
  obtain ⟨e3, rfl⟩ := rd_ok.mp e3
  obtain ⟨ds, S3, e5, e6⟩ := bind_ok.mp e4
  have e6 : bmP S3 m x ds = some (d, S') := by
    unfold stpD at e6
    split at e6
    · rename_i h; cases e6; exact h
    · cases e6
  have ty : ∀ {μ1 : List Addr} {H1 : Hp} {v1 : V}, RelS (cn X ca ν) μ1 S2 H1 → RelD (cn X ca ν) μ1 H1 x v1 → tyV X.K "list" v1 H1 := fun {μ1 H1 v1} r1 q1 => by
    unfold recvP at e3
    obtain ⟨xs, e7, _⟩ := Option.map_eq_some_iff.mp e3
    obtain ⟨p, vs, rfl, hp, _⟩ := lstOf_rel r1 q1 e7
    exact .inl ⟨rfl, vs, SqL.of hp⟩
  cases es with
  | nil =>
    refine (pe_bm0 pa slot hty (bm_sound (ca := ca) (ν := ν) hu m) ho (base_plain hp) (by simp [hl])).run pins s σ H Q I ⟨σd, S, μ, rs, rl, x, _, e1, fun μ1 H1 v1 st1 r1 q1 => ⟨ty r1 q1, ?_⟩⟩
    rw [hme rfl] at e5
    obtain ⟨rfl, rfl⟩ := pure_ok.mp e5
    exact ⟨_, μ1, x, [], r1, q1, .nil, d, S', e6, post.after st1⟩
  | cons e es =>
    have hs' := hs
    rw [List.all_cons, Bool.and_eq_true] at hs
    refine (pe_bm pa slot hty (bm_sound (ca := ca) (ν := ν) hu m) ho ha (base_plain hp) (by rw [star_all hs']; simp [keywordEach, backToKw]; simp at hn; omega) (by simp [hl]) (starEach_cons hs.1) (star_none hs.2)).run pins s σ H Q I ⟨σd, S, μ, rs, rl, x, _, e1, fun μ1 H1 v1 st1 r1 q1 => ⟨ty r1 q1, ?_⟩⟩
    exact ⟨σd, _, μ1, r1, rl.mono rs st1, ds, S3, e5, fun μ2 H2 vs st2 r2 q2 => ⟨S3, μ2, x, ds, r2, q1.mono r1 st2, q2, d, S', e6, post.after (st1.trans st2)⟩⟩

/-! ### isinstance -/
theorem bool_all : ∀ b : Bool, b = b := fun _ => rfl
theorem ty_val {ts : List Ty} : Paired ClsV (ts.map fun t => V.ty (tyName t)) (ts.map fun t => Value.type (tyName t)) := by
  induction ts with
  | nil => exact .nil
  | cons t r ih => exact .cons (.ty _) ih
def isiM (ts : List Ty) (m : Sl → M D) : Sl → M D := fun σ => do
  let x ← m σ
  rd fun S => (isis S x ts).map D.bl
theorem de_ty {t : Ty} (hg : Gl X (tyStr t)) (hm : X.mg (tyStr t) = none) : PE X (.Name (tyStr t) p) (tC (.ty (tyName t))) := by
  have ho := ok_names.2.2.1 t
  simp only [okName, Bool.and_eq_true, Bool.not_eq_true', beq_eq_false_iff_ne] at ho
  exact pe_bltn hg hm (ty_boot t) rfl ho.2 (beq_eq_false_iff_ne.mpr ho.1.1)
theorem de_isi1 {t : Ty} (hg : Gl X "isinstance") (hm : X.mg "isinstance" = none) (ht : Gl X (tyStr t)) (htm : X.mg (tyStr t) = none) (hn : nostar a = true) (ha : PE X a (Rx (cn X ca ν) ma)) {p2 : Pos} :
    PE X (.Call (.Name "isinstance" p) [a, .Name (tyStr t) p2] [] pos) (Rx (cn X ca ν) (isiM [t] ma)) := by
  refine pe_imp (callV (.inl ⟨_, rfl⟩) call_isi hg ok_names.2.2.2.1 hm isi_boot (by rw [List.all_cons, hn]; rfl) (pa_cons ha (pa_cons (de_ty ht htm) pa_nil (starEach_cons rfl)) (starEach_cons hn))) fun σ H Q q => ?_
  obtain ⟨σd, S, μ, rs, rl, d, S', e, post⟩ := q
  obtain ⟨x, S1, e1, e2⟩ := bind_ok.mp e
  obtain ⟨e2, rfl⟩ := rd_ok.mp e2
  obtain ⟨b, e3, rfl⟩ := Option.map_eq_some_iff.mp e2
  refine ⟨σd, S, μ, rs, rl, x, _, e1, fun μ1 H1 v1 st1 r1 q1 => ?_⟩
  simp only [isis] at e3
  split at e3
  · rename_i b1 b2 e4 e5
    cases e3
    cases e5
    obtain ⟨h1, h2⟩ := isTy_rel r1 q1 e4
    exact ⟨v1, .ty (tyName t), _, _, b1, rfl, .ty _, h1, kit_ty h2, by rw [← Bool.or_false b1]; exact (post.after st1).now r1 (.bl _)⟩
  · cases e3
theorem pa_tys {ts : List Ty} : ∀ {es : List Expr}, (∃ ps : List Pos, es = List.zipWith (fun t p => Expr.Name (tyStr t) p) ts ps ∧ ps.length = ts.length) → (∀ t ∈ ts, Gl X (tyStr t) ∧ X.mg (tyStr t) = none) →
    PA X es (fun _ H Q => Q (ts.map fun t => V.ty (tyName t)) H) := by
  induction ts with
  | nil =>
    rintro es ⟨ps, rfl, _⟩ _
    exact pa_nil
  | cons t r ih =>
    rintro es ⟨ps, rfl, hl⟩ h
    cases ps with
    | nil => cases hl
    | cons p ps =>
      have h1 := h t List.mem_cons_self
      exact pa_imp (pa_cons (de_ty (p := p) h1.1 h1.2) (ih ⟨ps, rfl, by simpa using hl⟩ fun t' ht' => h t' (List.mem_cons_of_mem _ ht')) (starEach_cons rfl)) fun σ H Q q => q
theorem de_isiT {ts : List Ty} (hg : Gl X "isinstance") (hm : X.mg "isinstance" = none) {k : Nat} {ps : List Pos} (hl : ps.length = ts.length) (hs : ts.length ≤ 1000) (hne : ts ≠ []) (ht : ∀ t ∈ ts, Gl X (tyStr t) ∧ X.mg (tyStr t) = none) (hn : nostar a = true) (ha : PE X a (Rx (cn X ca ν) ma)) {p2 : Pos} :
    PE X (.Call (.Name "isinstance" p) [a, .Tuple (List.zipWith (fun t p => Expr.Name (tyStr t) p) ts ps) k p2] [] pos) (Rx (cn X ca ν) (isiM ts ma)) := by
  refine pe_imp (callV (.inl ⟨_, rfl⟩) call_isiT hg ok_names.2.2.2.1 hm isi_boot (by rw [List.all_cons, hn]; rfl) (pa_cons ha (pa_cons (pe_tup (pa_tys (ts := ts) ⟨ps, rfl, hl⟩ ht)) pa_nil (starEach_cons rfl)) (starEach_cons hn))) fun σ H Q q => ?_
  obtain ⟨σd, S, μ, rs, rl, d, S', e, post⟩ := q
  obtain ⟨x, S1, e1, e2⟩ := bind_ok.mp e
  obtain ⟨e2, rfl⟩ := rd_ok.mp e2
  obtain ⟨b, e3, rfl⟩ := Option.map_eq_some_iff.mp e2
  refine ⟨σd, S, μ, rs, rl, x, _, e1, fun μ1 H1 v1 st1 r1 q1 => ⟨by rw [List.length_map]; exact Nat.le_of_lt (small1000 hs), fun tp htp => ?_⟩⟩
  have a1 := r1.add (ho := .tup (ts.map fun t => V.ty (tyName t))) htp
  have q1' := q1.mono r1 a1.1
  cases ts with
  | nil =>
    exact absurd rfl hne
  | cons t ts =>
    have e4 := e3
    simp only [isis] at e4
    split at e4
    · rename_i b1 b2 e5 e6
      exact ⟨v1, tp, _, _, _, b, rfl, upd_same, ty_val, (isTy_rel a1.2 q1' e5).1, isis_any a1.2 q1' e3, (post.after (st1.trans a1.1)).now a1.2 (.bl _)⟩
    · cases e4

/-! ### dicts -/
theorem pairsOf_rel {c : Cn} {μ : List Addr} {H : Hp} : ∀ {ds : List D} {vs : List V} {kvs : List (Key × D)}, RelDs c μ H ds vs → pairsOf ds = some kvs → ∃ (ps : List Addr) (ws : List (Key × V)), vs = ps.map V.ref ∧ RelKs c μ H kvs ws ∧ Paired (fun p kv => SqT c.K H p [kV kv.1, kv.2]) ps ws
  | _, _, _, .nil, e => by simp only [pairsOf, Option.some.injEq] at e; subst e; exact ⟨[], [], rfl, .nil, .nil⟩
  | d :: ds, _, _, .cons h t, e => by
    unfold pairsOf at e
    split at e
    · rename_i heq; cases heq
    · rename_i k v r heq
      cases heq
      split at e
      · rename_i k' r' e1 e2
        cases e
        obtain ⟨ps, ws, rfl, h1, h2⟩ := pairsOf_rel t e2
        cases h with
        | @tup a _ us h3 rs =>
          obtain ⟨x, y, rfl, qk, qv⟩ := rel2 rs
          refine ⟨a :: ps, (k', y) :: ws, rfl, .cons qv h1, .cons ?_ h2⟩
          have := keyOf_rel qk e1
          subst this
          exact h3.sqT
      · cases e
    · cases e
theorem de_dictOf {m : Bool} (hc : X.calm = true) (hg : Gl X "dict") (hm : X.mg "dict" = none) (hn : nostar a = true) (ha : PE X a (Rx (cn X ca ν) ma)) :
    PE X (.Call (.Name "dict" p) [a] [] pos) (Rx (cn X ca ν) fun σ => do
      let x ← ma σ
      let kvs ← rd fun S => (lstOf S x).bind pairsOf
      if m then alloc (.dk (mergeD [] kvs)) else pure (.dk (mergeD [] kvs))) := by
  refine pe_imp (callV (.inr ⟨_, rfl⟩) (call_dictP hc) hg ok_names.2.2.2.2 hm PyProof.Rows.boot_dict (by rw [List.all_cons, hn]; rfl) (pa_cons ha pa_nil (starEach_cons hn))) fun σ H Q q => ?_
  obtain ⟨σd, S, μ, rs, rl, d, S', e, post⟩ := q
  obtain ⟨x, S1, e1, e2⟩ := bind_ok.mp e
  obtain ⟨kvs, S2, e3, e4⟩ := bind_ok.mp e2
  obtain ⟨e3, rfl⟩ := rd_ok.mp e3
  obtain ⟨ds, e5, e6⟩ := Option.bind_eq_some_iff.mp e3
  refine ⟨σd, S, μ, rs, rl, x, _, e1, fun μ1 H1 v1 st1 r1 q1 => ?_⟩
  obtain ⟨p', vs, rfl, hp, rs'⟩ := lstOf_rel r1 q1 e5
  obtain ⟨ps, ws, rfl, h1, h2⟩ := pairsOf_rel rs' e6
  refine ⟨p', ps, ws, rfl, SqL.of hp, h2, fun q hq => ?_⟩
  cases m with
  | true =>
    obtain ⟨rfl, rfl⟩ := alloc_ok e4
    exact (post.after st1).handle r1 hq ⟨_, rfl, relKs_merge h1 .nil⟩
  | false =>
    obtain ⟨rfl, rfl⟩ := pure_ok.mp e4
    refine (post.after st1).new r1 hq (.dk upd_same (r1.fresh hq) (fun z => ?_) (RelKs.mono r1 (r1.add hq).1 (relKs_merge h1 .nil)))
    obtain ⟨_, o, h⟩ := r1.hh _ z
    rw [hq] at h; cases h
def RxE (X : Cx) (ca : Nat → Addr) (m : Sl → M D) : TE := fun σ H Q => ∃ ν, Rx (cn X ca ν) m σ H Q
theorem pe_ex (h : ∀ ν, PE X a (Rx (cn X ca ν) ma)) : PE X a (RxE X ca ma) := ⟨fun pins s σ H Q I ⟨ν, q⟩ => (h ν).run pins s σ H Q I q⟩
def seqM : List (Sl → M D) → Sl → M (List D)
  | [], _ => pure []
  | m :: r, σ => do
    let d ← m σ
    let ds ← seqM r σ
    pure (d :: ds)
def trsOf (X : Cx) (ca : Nat → Addr) (ks : List Key) (ms : List (Sl → M D)) : List (TE × TE) := (ks.zip ms).map fun z => (tC (kV z.1), RxE X ca z.2)
theorem rx_pairs {σ : L2.St} {σd : Sl} {S' : Sto} : ∀ {ks : List Key} {ms : List (Sl → M D)} {ds : List D} {S : Sto} {μ : List Addr} {H : Hp} {Q : List (V × V) → Hp → Prop}, ks.length = ms.length → RelS (cn X ca ν) μ S H → RelSl (cn X ca ν) μ H σd σ → seqM ms σd S = .ok ds S' →
    (∀ μ' H' vs, Step μ H μ' H' → RelS (cn X ca ν) μ' S' H' → RelDs (cn X ca ν) μ' H' ds vs → Q ((ks.map kV).zip vs) H') → tPairs (trsOf X ca ks ms) σ H Q
  | [], [], ds, S, μ, H, Q, _, r, rl, e, post => by
    obtain ⟨rfl, rfl⟩ := pure_ok.mp (show (pure [] : M (List D)) S = .ok ds S' from e)
    exact post μ H [] (Step.refl μ H) r .nil
  | k :: ks, m :: ms, ds, S, μ, H, Q, hl, r, rl, e, post => by
    obtain ⟨x, S1, e1, e2⟩ := bind_ok.mp (show (m σd >>= fun d => (seqM ms σd >>= fun ds => pure (d :: ds))) S = .ok ds S' from e)
    obtain ⟨xs, S2, e3, e4⟩ := bind_ok.mp e2
    obtain ⟨rfl, rfl⟩ := pure_ok.mp e4
    refine ⟨ν, σd, S, μ, r, rl, x, S1, e1, fun μ1 H1 v1 st1 r1 q1 => ?_⟩
    refine rx_pairs (ks := ks) (ms := ms) (by simpa using hl) r1 (rl.mono r st1) e3 fun μ2 H2 vs st2 r2 q2 => ?_
    exact post μ2 H2 (v1 :: vs) (st1.trans st2) r2 (.cons (q1.mono r1 st2) q2)
  | [], _ :: _, _, _, _, _, _, hl, _, _, _, _ => by cases hl
  | _ :: _, [], _, _, _, _, _, hl, _, _, _, _ => by cases hl
theorem relKs_zip {c : Cn} {μ : List Addr} {H : Hp} : ∀ {ks : List Key} {ds : List D} {vs : List V}, RelDs c μ H ds vs → RelKs c μ H (ks.zip ds) (ks.zip vs)
  | [], _, _, _ => .nil
  | _ :: _, _, _, .nil => .nil
  | _ :: _, _, _, .cons h t => .cons h (relKs_zip t)
theorem zip_kv : ∀ (ks : List Key) (vs : List V), (ks.map kV).zip vs = (ks.zip vs).map fun kv => (kV kv.1, kv.2)
  | [], _ => rfl
  | _ :: _, [] => rfl
  | _ :: ks, _ :: vs => by simp [zip_kv ks vs]
theorem de_disp {keys : List (Option Expr)} {values : List Expr} {ks : List Key} {ms : List (Sl → M D)} (hP : PPs X pos keys values (trsOf X ca ks ms)) (hall : keys.all (·.isSome) = true) (hl : keys.length = values.length) (h0 : keys ≠ []) (h15 : keys.length ≤ 15)
    (hk : ks.length = keys.length) (hm : ms.length = values.length) : PE X (.Dict keys values pos) (Rx (cn X ca ν) fun σ => do
      let ds ← seqM ms σ
      if ks.length = ds.length then pure (.dk (mergeD [] (ks.zip ds))) else fail) := by
  refine pe_imp (pe_disp hP hall hl h0 h15) fun σ H Q q p hp => ?_
  obtain ⟨σd, S, μ, rs, rl, d, S', e, post⟩ := q
  obtain ⟨ds, S1, e1, e2⟩ := bind_ok.mp e
  split at e2
  · rename_i hlen
    obtain ⟨rfl, rfl⟩ := pure_ok.mp e2
    have st0 := rs.add (ho := .dK []) hp
    refine rx_pairs (ν := p :: ν) (by omega) (rs.hideNew (u := .dK []) hp) (rl.hideNew hp) e1 fun μ1 H1 vs st1 r1 q1 => ?_
    have hp1 : H1 p = some (.dK []) := st1.keep _ _ (rs.fresh hp) upd_same
    refine ⟨hp1, ks.zip vs, zip_kv ks vs, ?_, ?_⟩
    · rw [List.length_zip]; omega
    · have hh : p ∈ (cn X ca (p :: ν)).hid := List.mem_cons_self
      have hlo : Loose H1 p := ⟨fun xs z => (by rw [hp1] at z; cases z), fun o u z => (by rw [hp1] at z; cases z)⟩
      have r2 := r1.updHid (u := .dK (mergeK [] (ks.zip vs))) hh hlo
      have q2 := RelDs.updHid (u := .dK (mergeK [] (ks.zip vs))) hh hlo q1
      have st2 : Step μ H μ1 (upd H1 p (.dK (mergeK [] (ks.zip vs)))) := (st0.1.trans st1).updNew hp
      refine post μ1 _ _ st2 (RelS.unhide (c := cn X ca ν) r2) (.dk upd_same (r1.hh p hh).1 (fun z => ?_) (relKs_merge (relKs_zip (RelDs.unhide (c := cn X ca ν) q2)) .nil))
      obtain ⟨_, o, h⟩ := rs.hh p z
      rw [hp] at h; cases h
  · cases e2
end
end Mp
set_option Elab.async false
set_option linter.all false
set_option maxRecDepth 100000
set_option maxHeartbeats 1000000
namespace Mp
open PySem PySem.Spec PyProof.Rows L2

/-! ### targets -/
def Kept (L : List Nat) (σ σ' : L2.St) : Prop := σ'.length = σ.length ∧ ∀ i, i ∉ L → σ'[i]? = σ[i]?
def RxG (c : Cn) (L : List Nat) (t : D → Sl → M Sl) : TG := fun v σ H Q => ∃ σd S μ d, RelS c μ S H ∧ RelSl c μ H σd σ ∧ RelD c μ H d v ∧ ∃ σd' S', t d σd S = .ok σd' S' ∧
  ∀ μ' H' σ', Step μ H μ' H' → RelS c μ' S' H' → RelSl c μ' H' σd' σ' → Kept L σ σ' → Q σ' H'
def RxGs (c : Cn) (L : List Nat) (t : List D → Sl → M Sl) : TGs := fun vs σ H Q => ∃ σd S μ ds, RelS c μ S H ∧ RelSl c μ H σd σ ∧ RelDs c μ H ds vs ∧ ∃ σd' S', t ds σd S = .ok σd' S' ∧
  ∀ μ' H' σ', Step μ H μ' H' → RelS c μ' S' H' → RelSl c μ' H' σd' σ' → Kept L σ σ' → Q σ' H'
theorem Kept.refl (L : List Nat) (σ : L2.St) : Kept L σ σ := ⟨rfl, fun _ _ => rfl⟩
theorem Kept.set {L : List Nat} {σ : L2.St} {i : Nat} {v : Option V} (h : i ∈ L) : Kept L σ (σ.set i v) := ⟨by simp, fun j hj => List.getElem?_set_ne fun e => hj (by rw [← e]; exact h)⟩
theorem Kept.trans {L : List Nat} {σ σ1 σ2 : L2.St} (a : Kept L σ σ1) (b : Kept L σ1 σ2) : Kept L σ σ2 := ⟨b.1.trans a.1, fun i h => (b.2 i h).trans (a.2 i h)⟩
theorem Kept.mono {L L' : List Nat} {σ σ1 : L2.St} (a : Kept L σ σ1) (h : ∀ i ∈ L, i ∈ L') : Kept L' σ σ1 := ⟨a.1, fun i hi => a.2 i fun z => hi (h i z)⟩
theorem wipe_in {σ : L2.St} {i : Nat} : ∀ {vs : List Nat}, i ∈ vs → i < σ.length → (wipe σ vs)[i]? = some none
  | v :: vs, h, hl => by
    unfold wipe
    by_cases e : v = i
    · subst e
      rw [List.getElem?_set_self (by rw [wipe_length]; exact hl)]
    · rw [List.getElem?_set_ne e]
      rcases List.mem_cons.mp h with z | z
      · exact absurd z.symm e
      · exact wipe_in z hl
theorem Kept.wipe {L vs : List Nat} {σ σ' : L2.St} (k : Kept L σ σ') (h : ∀ i ∈ L, i ∈ vs) : wipe σ' vs = wipe σ vs := by
  apply List.ext_getElem?
  intro i
  by_cases hi : i ∈ vs
  · by_cases hl : i < σ.length
    · rw [wipe_in hi hl, wipe_in hi (by rw [k.1]; exact hl)]
    · rw [List.getElem?_eq_none (by rw [wipe_length, k.1]; omega), List.getElem?_eq_none (by rw [wipe_length]; omega)]
  · rw [wipe_out' hi, wipe_out' hi]
    exact k.2 i fun z => hi (h i z)
theorem wipe_wipe {σ : L2.St} {vs : List Nat} : wipe (wipe σ vs) vs = wipe σ vs := by
  apply List.ext_getElem?
  intro i
  by_cases hi : i ∈ vs
  · by_cases hl : i < σ.length
    · rw [wipe_in hi hl, wipe_in hi (by rw [wipe_length]; exact hl)]
    · rw [List.getElem?_eq_none (by rw [wipe_length, wipe_length]; omega), List.getElem?_eq_none (by rw [wipe_length]; omega)]
  · rw [wipe_out' hi]
section
variable {X : Cx} {ca : Nat → Addr} {ν : List Addr} {ma mb mc : Sl → M D} {a b e : Expr} {es : List Expr} {pos : Pos} {x : Str}
theorem dg_nm {i : Nat} (hN : X.N.Nodup) (hi : X.N[i]? = some x) (hx : Loc X.env.scope x) (hf : X.fn x = true ∨ X.env.scope.names.lookup x = some .local) : PG X (.Name x pos) (RxG (cn X ca ν) [i] fun d σ => pure (σ.set i (some d))) := by
  refine pg_imp (pg_name hN hi hx hf) fun v σ H Q q => ?_
  obtain ⟨σd, S, μ, d, r, rl, q, σd', S', e, post⟩ := q
  obtain ⟨rfl, rfl⟩ := pure_ok.mp e
  exact post μ H _ (Step.refl μ H) r (rl.set i q) (Kept.set (by simp))
theorem stp_ok {f : Sto → Option Sto} {S S' : Sto} {u : Unit} (e : stp f S = .ok u S') : f S = some S' := by
  unfold stp at e
  split at e
  · rename_i h; cases e; exact h
  · cases e
theorem dg_sub (hu : X.A.units + 65 < cLine) (hn : notSl b = true) (ho : PE X a (Rx (cn X ca ν) ma)) (hi : PE X b (Rx (cn X ca ν) mb)) : PG X (.Subscript a b pos) (RxG (cn X ca ν) [] fun d σ => do
    let x ← ma σ
    let y ← mb σ
    stp fun S => setP S x y d
    pure σ) := by
  refine pg_imp (pg_sub ho hi (set_sound (ca := ca) (ν := ν) hu) (by intro v; cases b <;> first | rfl | simp [notSl] at hn)) fun v σ H Q q => ?_
  obtain ⟨σd, S, μ, d, r, rl, q, σd', S', e, post⟩ := q
  obtain ⟨x, S1, e1, e2⟩ := bind_ok.mp e
  obtain ⟨y, S2, e3, e4⟩ := bind_ok.mp e2
  obtain ⟨u, S3, e5, e6⟩ := bind_ok.mp e4
  obtain ⟨rfl, rfl⟩ := pure_ok.mp e6
  have e5 := stp_ok e5
  refine ⟨σd, S, μ, r, rl, x, S1, e1, fun μ1 H1 v1 st1 r1 q1 => ⟨σd, S1, μ1, r1, rl.mono r st1, y, S2, e3, fun μ2 H2 v2 st2 r2 q2 => ?_⟩⟩
  have st := st1.trans st2
  exact ⟨S2, μ2, x, y, d, r2, q1.mono r1 st2, q2, q.mono r st, _, e5, fun H3 st3 r3 => post μ2 H3 σ (st.trans st3) r3 (rl.mono r (st.trans st3)) (Kept.refl _ _)⟩
theorem dg_fld {f : Str} (hC : ∀ n, Cls X.K (ca n) ∧ NoAttr X.K (ca n) f) (ho : PE X a (Rx (cn X ca ν) ma)) : PG X (.Attribute a f pos) (RxG (cn X ca ν) [] fun d σ => do
    let x ← ma σ
    stp fun S => setF S x f d
    pure σ) := by
  refine pg_imp (pg_fldS ho) fun v σ H Q q => ?_
  obtain ⟨σd, S, μ, d, r, rl, q, σd', S', e, post⟩ := q
  obtain ⟨x, S1, e1, e2⟩ := bind_ok.mp e
  obtain ⟨u, S2, e3, e4⟩ := bind_ok.mp e2
  obtain ⟨rfl, rfl⟩ := pure_ok.mp e4
  have e3 := stp_ok e3
  refine ⟨σd, S, μ, r, rl, x, S1, e1, fun μ1 H1 v1 st1 r1 q1 => ?_⟩
  unfold setF at e3
  split at e3
  · rename_i n
    split at e3
    · rename_i C fs hn
      split at e3
      · rename_i hl
        cases e3
        cases q1 with
        | hd hm =>
          obtain ⟨ho, h1, dx, vs, e5, h2⟩ := r1.obj hn hm
          subst e5
          have st := r1.set hm (o := .ins C (putFD f d fs)) (ho := .ins (ca C) dx (putF f v vs)) ⟨dx, _, rfl, putF_rel (q.mono r st1) h2⟩
          have st2 := st1.trans st.1
          exact ⟨_, ca C, dx, vs, rfl, h1, (hC C).1, (hC C).2, by rw [← paired_len h2]; exact hl, post μ1 _ σ st2 st.2 (rl.mono r st2) (Kept.refl _ _)⟩
      · cases e3
    · cases e3
  · cases e3
theorem dgs_nil : PGs X [] (RxGs (cn X ca ν) [] fun ds σ => match ds with
    | [] => pure σ
    | _ => fail) := by
  refine ⟨fun pins s σ H vs us Q I rv q => pgs_nil.run pins s σ H vs us Q I rv ?_⟩
  obtain ⟨σd, S, μ, ds, r, rl, q, σd', S', e, post⟩ := q
  cases q with
  | nil =>
    obtain ⟨rfl, rfl⟩ := pure_ok.mp e
    exact ⟨rfl, post μ H σ (Step.refl μ H) r rl (Kept.refl _ _)⟩
  | cons _ _ => cases e
theorem assignEach_cons {env : Env} (h : nostar e = true) : assignEach (e :: es) env = (false, assign e env) :: assignEach es env := by
  cases e <;> first | rfl | simp [nostar] at h
theorem dgs_cons {L L' : List Nat} {t : D → Sl → M Sl} {ts : List D → Sl → M Sl} (hn : nostar e = true) (h1 : PG X e (RxG (cn X ca ν) L t)) (h2 : PGs X es (RxGs (cn X ca ν) L' ts)) : PGs X (e :: es) (RxGs (cn X ca ν) (L ++ L') fun ds σ => match ds with
    | d :: ds => do
      let σ1 ← t d σ
      ts ds σ1
    | _ => fail) := by
  refine ⟨fun pins s σ H vs us Q I rv q => (pgs_cons h1 h2 (by rw [assignEach_cons hn]; rfl)).run pins s σ H vs us Q I rv ?_⟩
  obtain ⟨σd, S, μ, ds, r, rl, q, σd', S', e, post⟩ := q
  cases q with
  | nil => cases e
  | @cons d v ds vs q1 q2 =>
    obtain ⟨σ1, S1, e1, e2⟩ := bind_ok.mp (show (t d σd >>= fun σ1 => ts ds σ1) S = .ok σd' S' from e)
    refine ⟨v, vs, rfl, σd, S, μ, d, r, rl, q1, σ1, S1, e1, fun μ1 H1 σ1' st1 r1 rl1 k1 => ?_⟩
    refine ⟨σ1, S1, μ1, ds, r1, rl1, q2.mono r st1, σd', S', e2, fun μ2 H2 σ2' st2 r2 rl2 k2 => ?_⟩
    exact post μ2 H2 σ2' (st1.trans st2) r2 rl2 ((k1.mono fun i h => List.mem_append_left _ h).trans (k2.mono fun i h => List.mem_append_right _ h))
theorem assignEach_len {env : Env} : ∀ {es : List Expr}, es.all nostar = true → (assignEach es env).length = es.length ∧ (assignEach es env).findIdx? (·.1) = none
  | [], _ => ⟨rfl, rfl⟩
  | e :: es, h => by
    rw [List.all_cons, Bool.and_eq_true] at h
    rw [assignEach_cons h.1]
    obtain ⟨h1, h2⟩ := assignEach_len (env := env) h.2
    exact ⟨by simp [h1], by rw [List.findIdx?_cons]; simp [h2]⟩
theorem dg_tup {k : Nat} {L : List Nat} {ts : List D → Sl → M Sl} (hc : X.calm = true) (hs : es.all nostar = true) (hlen : ∀ ds σ S σ' S', ts ds σ S = .ok σ' S' → ds.length = es.length) (h : PGs X es (RxGs (cn X ca ν) L ts)) : PG X (.Tuple es k pos) (RxG (cn X ca ν) L fun d σ => match d with
    | .tup ds => ts ds σ
    | _ => fail) := by
  refine pg_imp (pg_tup hc h (assignEach_len hs).1 (assignEach_len hs).2) fun v σ H Q q => ?_
  obtain ⟨σd, S, μ, d, r, rl, q, σd', S', e, post⟩ := q
  cases q with
  | @tup a' xs vs h1 rs => exact ⟨_, _, rfl, h1.sqT, by rw [← rs.length]; exact hlen _ _ _ _ _ e, σd, S, μ, _, r, rl, rs, σd', S', e, post⟩
  | _ => cases e
end

/-! ### what is walked -/
/-- more may be hidden later, if it was not there -/
def Grow (c : Cn) (H0 : Hp) (c' : Cn) : Prop := c'.K = c.K ∧ c'.ca = c.ca ∧ ∀ a, a ∈ c'.hid → a ∈ c.hid ∨ H0 a = none
theorem Grow.refl (c : Cn) (H0 : Hp) : Grow c H0 c := ⟨rfl, rfl, fun _ h => .inl h⟩
section
variable {c c' : Cn} {μ μ' : List Addr} {S S' : Sto} {H H' : Hp}
theorem Grow.ne (g : Grow c H c') {a : Addr} {o : HO} (h : H a = some o) (n : a ∉ c.hid) : a ∉ c'.hid := fun z => by
  rcases g.2.2 a z with z | z
  · exact n z
  · rw [h] at z; cases z
/-- what was told then may still be told -/
structure Carry (c : Cn) (μ : List Addr) (H : Hp) (c' : Cn) (μ' : List Addr) (H' : Hp) : Prop where
  g : Grow c H c'
  sub : ∀ a, a ∈ c.hid → a ∈ c'.hid
  pre : μ <+: μ'
  keep : ∀ a o, a ∉ μ → a ∉ c.hid → H a = some o → H' a = some o
  tup : ∀ a xs, H a = some (.tup xs) → H' a = some (.tup xs)
  frz : ∀ a o u, H a = some (.frz o u) → H' a = some (.frz o u)
  new : ∀ a, a ∈ μ' → a ∉ μ → H a = none
theorem Carry.out (k : Carry c μ H c' μ' H') {a : Addr} {o : HO} (h : H a = some o) (n : a ∉ μ) : a ∉ μ' := fun hm => by
  rw [k.new a hm n] at h
  cases h
theorem Carry.tupAt (k : Carry c μ H c' μ' H') {K : PySem.W.Frag} {a : Addr} {xs : List D} {vs : List V} (h : TupAt K H a xs vs) : TupAt K H' a xs vs := by
  rcases h with h | h
  · exact .inl (k.tup _ _ h)
  · exact .inr h
theorem Carry.scr (k : Carry c μ H c' μ' H') {K : PySem.W.Frag} {a : Addr} {ns : List Int} (h : Scr K H a ns) : Scr K H' a ns := by
  rcases h with ⟨o, h⟩ | h
  · exact .inl ⟨o, k.frz _ _ _ h⟩
  · exact .inr h
mutual
theorem RelD.carry (k : Carry c μ H c' μ' H') : ∀ {d : D} {v : V}, RelD c μ H d v → RelD c' μ' H' d v
  | _, _, .non => .non
  | _, _, .bl b => .bl b
  | _, _, .int i => .int i
  | _, _, .str x => .str x
  | _, _, .tup h rs => .tup (by rw [k.g.1]; exact k.tupAt h) (RelDs.carry k rs)
  | _, _, .lst h n hh rs => .lst (k.keep _ _ n hh h) (k.out h n) (k.g.ne h hh) (RelDs.carry k rs)
  | _, _, .dk h n hh rs => .dk (k.keep _ _ n hh h) (k.out h n) (k.g.ne h hh) (RelKs.carry k rs)
  | _, _, .hd h => .hd (get_pre k.pre h)
  | _, _, .scr h => .scr (by rw [k.g.1]; exact k.scr h)
theorem RelDs.carry (k : Carry c μ H c' μ' H') : ∀ {ds : List D} {vs : List V}, RelDs c μ H ds vs → RelDs c' μ' H' ds vs
  | _, _, .nil => .nil
  | _, _, .cons h t => .cons (RelD.carry k h) (RelDs.carry k t)
theorem RelKs.carry (k : Carry c μ H c' μ' H') : ∀ {ds : List (Key × D)} {vs : List (Key × V)}, RelKs c μ H ds vs → RelKs c' μ' H' ds vs
  | _, _, .nil => .nil
  | _, _, .cons h t => .cons (RelD.carry k h) (RelKs.carry k t)
end
theorem Carry.of (r : RelS c μ S H) (st : Step μ H μ' H') (g : Grow c H c') (sub : ∀ a, a ∈ c.hid → a ∈ c'.hid) : Carry c μ H c' μ' H' :=
  ⟨g, sub, st.pre, fun a o n _ h => st.keep a o n h, fun a xs h => st.keep _ _ (r.notTup h) h, fun a o u h => st.keep _ _ (r.notFrz h) h, st.new⟩
theorem Carry.refl (c : Cn) (μ : List Addr) (H : Hp) : Carry c μ H c μ H := ⟨Grow.refl c H, fun _ h => h, List.prefix_refl μ, fun _ _ _ _ h => h, fun _ _ h => h, fun _ _ _ h => h, fun _ h n => absurd h n⟩
theorem Carry.step {μ'' : List Addr} {H'' : Hp} (k : Carry c μ H c' μ' H') (r : RelS c' μ' S' H') (st : Step μ' H' μ'' H'') : Carry c μ H c' μ'' H'' := by
  have nm : ∀ a o, a ∉ μ → H a = some o → a ∉ μ' := fun a o n h z => by rw [k.new a z n] at h; cases h
  refine ⟨k.g, k.sub, k.pre.trans st.pre, fun a o n nh h => st.keep a o (nm a o n h) (k.keep a o n nh h), fun a xs h => st.keep _ _ (r.notTup (k.tup a xs h)) (k.tup a xs h), fun a o u h => st.keep _ _ (r.notFrz (k.frz a o u h)) (k.frz a o u h), fun a h n => ?_⟩
  by_cases hm : a ∈ μ'
  · exact k.new a hm n
  · have h1 := st.new a h hm
    cases e : H a with
    | none => rfl
    | some o =>
      by_cases hh : a ∈ c.hid
      · obtain ⟨_, o', h2⟩ := r.hh a (k.sub a hh)
        rw [h1] at h2; cases h2
      · rw [k.keep a o n hh e] at h1; cases h1
theorem Carry.upd {a : Addr} {u : HO} (k : Carry c μ H c' μ' H') (hh : a ∈ c'.hid) (hl : Loose H' a) : Carry c μ H c' μ' (upd H' a u) := by
  refine ⟨k.g, k.sub, k.pre, fun b o n nh h => ?_, fun b xs h => ?_, fun b o w h => ?_, k.new⟩
  · rw [upd_ne (fun e => by rw [e] at h nh; exact k.g.ne h nh hh)]
    exact k.keep b o n nh h
  · have := k.tup b xs h
    rw [upd_ne (fun e => by rw [e] at this; exact hl.1 _ this)]
    exact this
  · have := k.frz b o w h
    rw [upd_ne (fun e => by rw [e] at this; exact hl.2 _ _ this)]
    exact this
end
def SrcOk (c : Cn) (src : Src) (J : L2.It) (μ0 : List Addr) (H0 : Hp) : Prop := ∀ c' μ S H, Carry c μ0 H0 c' μ H → RelS c' μ S H → ∀ (i : Nat) (o : Option D) (S' : Sto), src.next i S = .ok o S' → S' = S ∧
  (o = none → J.stop i H) ∧ ∀ d, o = some d → J.go i H ∧ ∀ x H', J.yld i H x H' → Step μ H μ H' ∧ RelS c' μ S H' ∧ RelD c' μ H' d x
def RxI (c : Cn) (m : Sl → M Src) : TI := fun σ H R => ∃ σd S μ, RelS c μ S H ∧ RelSl c μ H σd σ ∧ ∃ src S', m σd S = .ok src S' ∧ ∀ μ' H' J, Step μ H μ' H' → RelS c μ' S' H' → SrcOk c src J μ' H' → R J H'
section
variable {X : Cx} {ca : Nat → Addr} {ν : List Addr} {c : Cn} {μ : List Addr} {S : Sto} {H : Hp}
/-- items that stand still -/
theorem src_tup {a : Addr} {xs : List D} {vs : List V} (h : TupAt c.K H a xs vs) (rs : RelDs c μ H xs vs) : SrcOk c (.st xs) (Itt c.K a) μ H := by
  intro c' μ1 S1 H1 k r1 i o S2 e
  obtain ⟨rfl, rfl⟩ := pure_ok.mp (show (pure xs[i]? : M (Option D)) S1 = .ok o S2 from e)
  have h1 : SqT c.K H1 a vs := (k.tupAt h).sqT
  refine ⟨rfl, fun ho => ⟨vs, h1, by rw [← rs.length]; exact List.getElem?_eq_none_iff.mp ho⟩, fun d hd => ?_⟩
  obtain ⟨v, hv, q⟩ := rs.get hd
  refine ⟨⟨vs, v, h1, hv⟩, fun x H' y => ?_⟩
  obtain ⟨rfl, hy⟩ := y
  have := hy vs h1
  rw [hv] at this
  cases this
  exact ⟨Step.refl _ _, r1, q.carry k⟩
theorem src_lst {a : Addr} {xs : List D} {vs : List V} (h : ∀ {c' μ1 H1}, Carry c μ H c' μ1 H1 → SqL c.K H1 a vs) (rs : RelDs c μ H xs vs) : SrcOk c (.st xs) (Itl c.K a) μ H := by
  intro c' μ1 S1 H1 k r1 i o S2 e
  obtain ⟨rfl, rfl⟩ := pure_ok.mp (show (pure xs[i]? : M (Option D)) S1 = .ok o S2 from e)
  have h1 : SqL c.K H1 a vs := h k
  refine ⟨rfl, fun ho => ⟨vs, h1, by rw [← rs.length]; exact List.getElem?_eq_none_iff.mp ho⟩, fun d hd => ?_⟩
  obtain ⟨v, hv, q⟩ := rs.get hd
  refine ⟨⟨vs, v, h1, hv⟩, fun x H' y => ?_⟩
  obtain ⟨rfl, hy⟩ := y
  have := hy vs h1
  rw [hv] at this
  cases this
  exact ⟨Step.refl _ _, r1, q.carry k⟩
theorem src_ha {a : Addr} {n : Nat} (hm : μ[n]? = some a) : SrcOk c (.ha n) (Itl c.K a) μ H := by
  intro c' μ1 S1 H1 k r1 i o S2 e
  obtain ⟨e, rfl⟩ := rd_ok.mp (show rd (fun S => match S[n]? with
    | some (.lst xs) => some xs[i]?
    | _ => none) S1 = .ok o S2 from e)
  split at e
  · rename_i xs hn
    cases e
    obtain ⟨ho, h1, vs, e2, rs⟩ := r1.obj hn (get_pre k.pre hm)
    subst e2
    refine ⟨rfl, fun ho => ⟨vs, SqL.of h1, by rw [← rs.length]; exact List.getElem?_eq_none_iff.mp ho⟩, fun d hd => ?_⟩
    obtain ⟨v, hv, q⟩ := rs.get hd
    refine ⟨⟨vs, v, SqL.of h1, hv⟩, fun x H' y => ?_⟩
    obtain ⟨rfl, hy⟩ := y
    have := hy vs (SqL.of h1)
    rw [hv] at this
    cases this
    exact ⟨Step.refl _ _, r1, q⟩
  · cases e
theorem src_he {a : Addr} {n : Nat} (hm : μ[n]? = some a) : SrcOk c (.he n) (Ite c.K a) μ H := by
  intro c' μ1 S1 H1 k r1 i o S2 e
  obtain ⟨e, rfl⟩ := rd_ok.mp (show rd (fun S => match S[n]? with
    | some (.lst xs) => some (xs[i]?.map fun x => .tup [.int (i : Nat), x])
    | _ => none) S1 = .ok o S2 from e)
  split at e
  · rename_i xs hn
    cases e
    obtain ⟨ho, h1, vs, e2, rs⟩ := r1.obj hn (get_pre k.pre hm)
    subst e2
    refine ⟨rfl, fun ho => ⟨vs, SqL.of h1, ?_⟩, fun d hd => ?_⟩
    · rw [← rs.length]
      exact List.getElem?_eq_none_iff.mp (Option.map_eq_none_iff.mp ho)
    · obtain ⟨d', hd', rfl⟩ := Option.map_eq_some_iff.mp hd
      obtain ⟨v, hv, q⟩ := rs.get hd'
      refine ⟨⟨vs, v, SqL.of h1, hv⟩, fun x H' y => ?_⟩
      obtain ⟨T, z, rfl, hT, rfl, hy⟩ := y
      have := hy vs (SqL.of h1)
      rw [hv] at this
      cases this
      have ad := r1.add (ho := .tup [.int (i : Nat), v]) hT
      exact ⟨ad.1, ad.2, .tup (.inl upd_same) (.cons (.int _) (.cons (q.mono r1 ad.1) .nil))⟩
  · cases e
theorem enumD_get : ∀ {xs : List D} {k i : Nat}, (enumD k xs)[i]? = xs[i]?.map fun x => .tup [.int ((k + i : Nat)), x]
  | [], _, _ => by simp [enumD]
  | x :: r, k, 0 => by simp [enumD]
  | x :: r, k, i + 1 => by
    simp only [enumD, List.getElem?_cons_succ]
    rw [enumD_get]
    have : k + 1 + i = k + (i + 1) := by omega
    rw [this]
theorem src_enumT {a : Addr} {xs : List D} {vs : List V} (h : TupAt c.K H a xs vs) (rs : RelDs c μ H xs vs) : SrcOk c (.st (enumD 0 xs)) (IteT c.K a) μ H := by
  intro c' μ1 S1 H1 k r1 i o S2 e
  obtain ⟨rfl, rfl⟩ := pure_ok.mp (show (pure (enumD 0 xs)[i]? : M (Option D)) S1 = .ok o S2 from e)
  have h1 : SqT c.K H1 a vs := (k.tupAt h).sqT
  rw [enumD_get]
  refine ⟨rfl, fun ho => ⟨vs, h1, ?_⟩, fun d hd => ?_⟩
  · rw [← rs.length]
    exact List.getElem?_eq_none_iff.mp (Option.map_eq_none_iff.mp ho)
  · obtain ⟨d', hd', rfl⟩ := Option.map_eq_some_iff.mp hd
    obtain ⟨v, hv, q⟩ := rs.get hd'
    refine ⟨⟨vs, v, h1, hv⟩, fun x H' y => ?_⟩
    obtain ⟨T, z, rfl, hT, rfl, hy⟩ := y
    have := hy vs h1
    rw [hv] at this
    cases this
    have ad := r1.add (ho := .tup [.int (i : Nat), v]) hT
    rw [Nat.zero_add]
    exact ⟨ad.1, ad.2, .tup (.inl upd_same) (.cons (.int _) (.cons ((q.carry k).mono r1 ad.1) .nil))⟩
theorem src_enumL {a : Addr} {xs : List D} {vs : List V} (h : ∀ {c' μ1 H1}, Carry c μ H c' μ1 H1 → SqL c.K H1 a vs) (rs : RelDs c μ H xs vs) : SrcOk c (.st (enumD 0 xs)) (Ite c.K a) μ H := by
  intro c' μ1 S1 H1 k r1 i o S2 e
  obtain ⟨rfl, rfl⟩ := pure_ok.mp (show (pure (enumD 0 xs)[i]? : M (Option D)) S1 = .ok o S2 from e)
  have h1 : SqL c.K H1 a vs := h k
  rw [enumD_get]
  refine ⟨rfl, fun ho => ⟨vs, h1, ?_⟩, fun d hd => ?_⟩
  · rw [← rs.length]
    exact List.getElem?_eq_none_iff.mp (Option.map_eq_none_iff.mp ho)
  · obtain ⟨d', hd', rfl⟩ := Option.map_eq_some_iff.mp hd
    obtain ⟨v, hv, q⟩ := rs.get hd'
    refine ⟨⟨vs, v, h1, hv⟩, fun x H' y => ?_⟩
    obtain ⟨T, z, rfl, hT, rfl, hy⟩ := y
    have := hy vs h1
    rw [hv] at this
    cases this
    have ad := r1.add (ho := .tup [.int (i : Nat), v]) hT
    rw [Nat.zero_add]
    exact ⟨ad.1, ad.2, .tup (.inl upd_same) (.cons (.int _) (.cons ((q.carry k).mono r1 ad.1) .nil))⟩
theorem rngD_get : ∀ {n : Nat} {lo : Int} {i : Nat}, (rngD lo n)[i]? = if i < n then some (.int (lo + i)) else none
  | 0, _, _ => by simp [rngD]
  | n + 1, lo, 0 => by simp [rngD]
  | n + 1, lo, i + 1 => by
    simp only [rngD, List.getElem?_cons_succ]
    rw [rngD_get]
    have : lo + 1 + (i : Int) = lo + ((i + 1 : Nat) : Int) := by omega
    rw [this]
    by_cases h : i < n
    · rw [if_pos h, if_pos (by omega)]
    · rw [if_neg h, if_neg (by omega)]
theorem src_rng {lo : Int} {n : Nat} : SrcOk c (.st (rngD lo n)) (Itr lo n) μ H := by
  intro c' μ1 S1 H1 k r1 i o S2 e
  obtain ⟨rfl, rfl⟩ := pure_ok.mp (show (pure (rngD lo n)[i]? : M (Option D)) S1 = .ok o S2 from e)
  rw [rngD_get]
  by_cases h : i < n
  · rw [if_pos h]
    refine ⟨rfl, ⟨fun z => (by cases z), fun d hd => ?_⟩⟩
    cases hd
    refine ⟨h, fun x H' y => ?_⟩
    obtain ⟨rfl, rfl⟩ := y
    exact ⟨Step.refl _ _, r1, .int _⟩
  · rw [if_neg h]
    exact ⟨rfl, fun _ => Nat.le_of_not_lt h, fun d hd => by cases hd⟩
theorem src_str {z : Str} : SrcOk c (.st (z.cps.toList.map fun k => .str ⟨#[k]⟩)) (Its z) μ H := by
  intro c' μ1 S1 H1 k r1 i o S2 e
  obtain ⟨rfl, rfl⟩ := pure_ok.mp (show (pure (z.cps.toList.map fun k => D.str ⟨#[k]⟩)[i]? : M (Option D)) S1 = .ok o S2 from e)
  have hl : (z.cps.toList.map fun k => D.str ⟨#[k]⟩).length = z.cps.size := by simp
  refine ⟨rfl, fun ho => ?_, fun d hd => ?_⟩
  · have := List.getElem?_eq_none_iff.mp ho
    rw [hl] at this
    exact this
  · have hlt := (List.getElem?_eq_some_iff.mp hd).1
    rw [hl] at hlt
    refine ⟨hlt, fun x H' y => ?_⟩
    obtain ⟨rfl, k, hk, rfl⟩ := y
    have : z.cps.toList[i]? = some k := by rw [Array.getElem?_toList]; exact hk
    rw [List.getElem?_map, this] at hd
    cases hd
    exact ⟨Step.refl _ _, r1, .str _⟩
theorem zipD_get : ∀ {xs ys : List D} {i : Nat}, (zipD xs ys)[i]? = match xs[i]?, ys[i]? with
    | some x, some y => some (.tup [x, y])
    | _, _ => none
  | [], _, _ => by simp [zipD]
  | x :: xs, [], i => by cases h : (x :: xs)[i]? <;> simp [zipD]
  | x :: xs, y :: ys, 0 => by simp [zipD]
  | x :: xs, y :: ys, i + 1 => by
    simp only [zipD, List.getElem?_cons_succ]
    exact zipD_get
end
end Mp
set_option Elab.async false
set_option linter.all false
set_option maxRecDepth 100000
set_option maxHeartbeats 1000000
namespace Mp
open PySem PySem.Spec PyProof.Rows L2

section
variable {c : Cn} {μ : List Addr} {S : Sto} {H : Hp}
theorem src_zipL {a b : Addr} {xs ys : List D} {vs us : List V} (h : ∀ {c' μ1 H1}, Carry c μ H c' μ1 H1 → SqL c.K H1 a vs ∧ SqL c.K H1 b us) (rs : RelDs c μ H xs vs) (rs' : RelDs c μ H ys us) : SrcOk c (.st (zipD xs ys)) (Itz c.K a b) μ H := by
  intro c' μ1 S1 H1 k r1 i o S2 e
  obtain ⟨rfl, rfl⟩ := pure_ok.mp (show (pure (zipD xs ys)[i]? : M (Option D)) S1 = .ok o S2 from e)
  obtain ⟨h1, h2⟩ := h k
  have l1 := rs.length
  have l2 := rs'.length
  rw [zipD_get]
  cases e1 : xs[i]? with
  | none =>
    have := List.getElem?_eq_none_iff.mp e1
    exact ⟨rfl, ⟨fun _ => ⟨vs, us, h1, h2, .inl (by omega)⟩, fun d hd => (by cases hd)⟩⟩
  | some x =>
    cases e2 : ys[i]? with
    | none =>
      have := List.getElem?_eq_none_iff.mp e2
      exact ⟨rfl, ⟨fun _ => ⟨vs, us, h1, h2, .inr (by omega)⟩, fun d hd => (by cases hd)⟩⟩
    | some y =>
      refine ⟨rfl, ⟨fun z => (by cases z), fun d hd => ?_⟩⟩
      cases hd
      obtain ⟨v, hv, q⟩ := rs.get e1
      obtain ⟨u, hu, q'⟩ := rs'.get e2
      refine ⟨⟨vs, us, v, u, h1, h2, hv, hu⟩, fun w H' y => ?_⟩
      obtain ⟨T, z, z', rfl, hT, rfl, hy, hy'⟩ := y
      have t1 := hy vs h1
      have t2 := hy' us h2
      rw [hv] at t1
      rw [hu] at t2
      cases t1
      cases t2
      have ad := r1.add (ho := .tup [v, u]) hT
      exact ⟨ad.1, ad.2, .tup (.inl upd_same) (.cons ((q.carry k).mono r1 ad.1) (.cons ((q'.carry k).mono r1 ad.1) .nil))⟩
theorem src_zipT {a b : Addr} {xs ys : List D} {vs us : List V} (h : ∀ {c' μ1 H1}, Carry c μ H c' μ1 H1 → SqT c.K H1 a vs ∧ SqT c.K H1 b us) (rs : RelDs c μ H xs vs) (rs' : RelDs c μ H ys us) : SrcOk c (.st (zipD xs ys)) (RZ.ItzT c.K a b) μ H := by
  intro c' μ1 S1 H1 k r1 i o S2 e
  obtain ⟨rfl, rfl⟩ := pure_ok.mp (show (pure (zipD xs ys)[i]? : M (Option D)) S1 = .ok o S2 from e)
  obtain ⟨h1, h2⟩ := h k
  have l1 := rs.length
  have l2 := rs'.length
  rw [zipD_get]
  cases e1 : xs[i]? with
  | none =>
    have := List.getElem?_eq_none_iff.mp e1
    exact ⟨rfl, ⟨fun _ => ⟨vs, us, h1, h2, .inl (by omega)⟩, fun d hd => (by cases hd)⟩⟩
  | some x =>
    cases e2 : ys[i]? with
    | none =>
      have := List.getElem?_eq_none_iff.mp e2
      exact ⟨rfl, ⟨fun _ => ⟨vs, us, h1, h2, .inr (by omega)⟩, fun d hd => (by cases hd)⟩⟩
    | some y =>
      refine ⟨rfl, ⟨fun z => (by cases z), fun d hd => ?_⟩⟩
      cases hd
      obtain ⟨v, hv, q⟩ := rs.get e1
      obtain ⟨u, hu, q'⟩ := rs'.get e2
      refine ⟨⟨vs, us, v, u, h1, h2, hv, hu⟩, fun w H' y => ?_⟩
      obtain ⟨T, z, z', rfl, hT, rfl, hy, hy'⟩ := y
      have t1 := hy vs h1
      have t2 := hy' us h2
      rw [hv] at t1
      rw [hu] at t2
      cases t1
      cases t2
      have ad := r1.add (ho := .tup [v, u]) hT
      exact ⟨ad.1, ad.2, .tup (.inl upd_same) (.cons ((q.carry k).mono r1 ad.1) (.cons ((q'.carry k).mono r1 ad.1) .nil))⟩
end

section
variable {X : Cx} {ca : Nat → Addr} {ν : List Addr} {ma mb : Sl → M D} {me : Sl → M (List D)} {a b tg : Expr} {es : List Expr} {pos p tpos : Pos} {elts : List Expr} {kk : Nat}
def mSeq (ma : Sl → M D) : Sl → M Src := fun σ => do
    match ← ma σ with
    | .tup ds => pure (.st ds)
    | .lst ds => pure (.st ds)
    | .scr ns => pure (.st (ns.map D.int))
    | .str x => pure (.st (x.cps.toList.map fun c => .str ⟨#[c]⟩))
    | .hd n => rd fun S => match S[n]? with
      | some (.lst _) => some (.ha n)
      | _ => none
    | _ => fail
theorem di_seq (ha : PE X a (Rx (cn X ca ν) ma)) : PI X tg a (RxI (cn X ca ν) (mSeq ma)) := by
  refine ⟨fun pins s σ H R I q => ?_⟩
  obtain ⟨σd, S, μ, rs, rl, src, S', e, post⟩ := q
  obtain ⟨x, S1, e1, e2⟩ := bind_ok.mp (show (ma σd >>= fun d => _) S = .ok src S' from e)
  cases x with
  | tup ds =>
    obtain ⟨rfl, rfl⟩ := pure_ok.mp e2
    refine (pi_tup ha).run pins s σ H R I ⟨σd, S, μ, rs, rl, _, _, e1, fun μ1 H1 v1 st1 r1 q1 => ?_⟩
    cases q1 with
    | tup h rs' => exact ⟨_, rfl, ⟨_, h.sqT⟩, post μ1 H1 _ st1 r1 (src_tup h rs')⟩
  | lst ds =>
    obtain ⟨rfl, rfl⟩ := pure_ok.mp e2
    refine (pi_list ha).run pins s σ H R I ⟨σd, S, μ, rs, rl, _, _, e1, fun μ1 H1 v1 st1 r1 q1 => ?_⟩
    cases q1 with
    | lst h n hh rs' => exact ⟨_, rfl, ⟨_, SqL.of h⟩, post μ1 H1 _ st1 r1 (src_lst (fun k => SqL.of (k.keep _ _ n hh h)) rs')⟩
  | scr ns =>
    obtain ⟨rfl, rfl⟩ := pure_ok.mp e2
    refine (pi_list ha).run pins s σ H R I ⟨σd, S, μ, rs, rl, _, _, e1, fun μ1 H1 v1 st1 r1 q1 => ?_⟩
    cases q1 with
    | scr h => exact ⟨_, rfl, ⟨_, h.sqL⟩, post μ1 H1 _ st1 r1 (src_lst (fun k => (k.scr h).sqL) (RelDs.ints ns))⟩
  | str z =>
    obtain ⟨rfl, rfl⟩ := pure_ok.mp e2
    refine (pi_str ha).run pins s σ H R I ⟨σd, S, μ, rs, rl, _, _, e1, fun μ1 H1 v1 st1 r1 q1 => ?_⟩
    cases q1 with
    | str _ => exact ⟨z, rfl, post μ1 H1 _ st1 r1 src_str⟩
  | hd n =>
    obtain ⟨e2, rfl⟩ := rd_ok.mp e2
    split at e2
    · rename_i xs hn
      cases e2
      refine (pi_list ha).run pins s σ H R I ⟨σd, S, μ, rs, rl, _, _, e1, fun μ1 H1 v1 st1 r1 q1 => ?_⟩
      cases q1 with
      | hd hm =>
        obtain ⟨ho, h1, vs, e3, h2⟩ := r1.obj hn hm
        subst e3
        exact ⟨_, rfl, ⟨_, SqL.of h1⟩, post μ1 H1 _ st1 r1 (src_ha hm)⟩
    · cases e2
  | _ => cases e2
def mRng (me : Sl → M (List D)) : Sl → M Src := fun σ => do
    match ← me σ with
    | [.int j] => if inR j then pure (.st (rngD 0 j.toNat)) else fail
    | [.int i, .int j] => if inR i && inR j then pure (.st (rngD i (j - i).toNat)) else fail
    | _ => fail
theorem inR_ok {i : Int} (h : inR i = true) : -(2 ^ 62) ≤ i ∧ i < 2 ^ 62 := by
  unfold inR at h
  rw [Bool.and_eq_true] at h
  exact ⟨of_decide_eq_true h.1, of_decide_eq_true h.2⟩
theorem di_rng (hlen : es.length = 1 ∨ es.length = 2) (hl : ∀ σ S ds S', me σ S = .ok ds S' → ds.length = es.length) (hs : es.all nostar = true) (hg : Gl X "range") (hm : X.mg "range" = none) (ha : PA X es (RxA (cn X ca ν) me)) :
    PI X tg (.Call (.Name "range" p) es [] pos) (RxI (cn X ca ν) (mRng me)) := by
  refine ⟨fun pins s σ H R I q => ?_⟩
  obtain ⟨σd, S, μ, rs, rl, src, S', e, post⟩ := q
  obtain ⟨ds, S1, e1, e2⟩ := bind_ok.mp (show (me σd >>= fun d => _) S = .ok src S' from e)
  have hl' := hl _ _ _ _ e1
  split at e2
  · rename_i j
    match es, hlen, hl', hs, ha with
    | [a], _, _, hs, ha =>
      simp only [List.all_cons, List.all_nil, Bool.and_true] at hs
      split at e2
      · rename_i hr
        obtain ⟨rfl, rfl⟩ := pure_ok.mp e2
        have hr := inR_ok hr
        refine (pi_range1 hg hm ha (starEach_cons hs)).run pins s σ H R I ⟨σd, S, μ, rs, rl, _, _, e1, fun μ1 H1 vs st1 r1 q1 => ?_⟩
        cases q1 with
        | cons q1 q2 =>
          cases q2
          cases q1
          exact ⟨j, rfl, hr.1, hr.2, post μ1 H1 _ st1 r1 src_rng⟩
      · cases e2
  · rename_i i j
    match es, hlen, hl', hs, ha with
    | [a, b], _, _, hs, ha =>
      simp only [List.all_cons, List.all_nil, Bool.and_true, Bool.and_eq_true] at hs
      split at e2
      · rename_i hr
        obtain ⟨rfl, rfl⟩ := pure_ok.mp e2
        rw [Bool.and_eq_true] at hr
        have h1 := inR_ok hr.1
        have h2 := inR_ok hr.2
        refine (pi_range2 hg hm ha (by rw [starEach_cons hs.1, starEach_cons hs.2]; rfl) (starEach_cons hs.2)).run pins s σ H R I ⟨σd, S, μ, rs, rl, _, _, e1, fun μ1 H1 vs st1 r1 q1 => ?_⟩
        cases q1 with
        | cons q1 q2 =>
          cases q2 with
          | cons q2 q3 =>
            cases q3
            cases q1
            cases q2
            exact ⟨i, j, rfl, ⟨h1.1, h1.2, h2.1, h2.2⟩, post μ1 H1 _ st1 r1 src_rng⟩
      · cases e2
  · cases e2
def mEnum (ma : Sl → M D) : Sl → M Src := fun σ => do
    match ← ma σ with
    | .tup ds => pure (.st (enumD 0 ds))
    | .lst ds => pure (.st (enumD 0 ds))
    | .hd n => rd fun S => match S[n]? with
      | some (.lst _) => some (.he n)
      | _ => none
    | _ => fail
theorem di_enum (hn : nostar a = true) (hg : Gl X "enumerate") (hm : X.mg "enumerate" = none) (ha : PE X a (Rx (cn X ca ν) ma)) :
    PI X (.Tuple elts kk tpos) (.Call (.Name "enumerate" p) [a] [] pos) (RxI (cn X ca ν) (mEnum ma)) := by
  refine ⟨fun pins s σ H R I q => ?_⟩
  obtain ⟨σd, S, μ, rs, rl, src, S', e, post⟩ := q
  obtain ⟨x, S1, e1, e2⟩ := bind_ok.mp (show (ma σd >>= fun d => _) S = .ok src S' from e)
  have pa := pa_cons ha pa_nil (starEach_cons hn)
  cases x with
  | tup ds =>
    obtain ⟨rfl, rfl⟩ := pure_ok.mp e2
    refine (pi_enumT hg hm pa (starEach_cons hn)).run pins s σ H R I ⟨σd, S, μ, rs, rl, _, _, e1, fun μ1 H1 v1 st1 r1 q1 => ?_⟩
    cases q1 with
    | tup h rs' => exact ⟨_, _, rfl, h.sqT, post μ1 H1 _ st1 r1 (src_enumT h rs')⟩
  | lst ds =>
    obtain ⟨rfl, rfl⟩ := pure_ok.mp e2
    refine (pi_enum hg hm pa (starEach_cons hn)).run pins s σ H R I ⟨σd, S, μ, rs, rl, _, _, e1, fun μ1 H1 v1 st1 r1 q1 => ?_⟩
    cases q1 with
    | lst h n hh rs' => exact ⟨_, _, rfl, SqL.of h, post μ1 H1 _ st1 r1 (src_enumL (fun k => SqL.of (k.keep _ _ n hh h)) rs')⟩
  | hd n =>
    obtain ⟨e2, rfl⟩ := rd_ok.mp e2
    split at e2
    · rename_i xs hn'
      cases e2
      refine (pi_enum hg hm pa (starEach_cons hn)).run pins s σ H R I ⟨σd, S, μ, rs, rl, _, _, e1, fun μ1 H1 v1 st1 r1 q1 => ?_⟩
      cases q1 with
      | hd hm =>
        obtain ⟨ho, h1, vs, e3, h2⟩ := r1.obj hn' hm
        subst e3
        exact ⟨_, _, rfl, SqL.of h1, post μ1 H1 _ st1 r1 (src_he hm)⟩
    · cases e2
  | _ => cases e2
def mZip (ma mb : Sl → M D) : Sl → M Src := fun σ => do
    let x ← ma σ
    let y ← mb σ
    match x, y with
    | .tup xs, .tup ys => pure (.st (zipD xs ys))
    | .lst xs, .lst ys => pure (.st (zipD xs ys))
    | _, _ => fail
theorem di_zip (hn : nostar a = true) (hn' : nostar b = true) (hg : Gl X "zip") (hm : X.mg "zip" = none) (ha : PE X a (Rx (cn X ca ν) ma)) (hb : PE X b (Rx (cn X ca ν) mb)) :
    PI X (.Tuple elts kk tpos) (.Call (.Name "zip" p) [a, b] [] pos) (RxI (cn X ca ν) (mZip ma mb)) := by
  refine ⟨fun pins s σ H R I q => ?_⟩
  obtain ⟨σd, S, μ, rs, rl, src, S', e, post⟩ := q
  obtain ⟨x, S1, e1, e2⟩ := bind_ok.mp e
  obtain ⟨y, S2, e3, e4⟩ := bind_ok.mp e2
  refine (RZ.pi_zipA hg hm (pa_cons ha (pa_cons hb pa_nil (starEach_cons hn')) (starEach_cons hn)) (starEach_cons hn) (by rw [starEach_cons hn']; rfl)).run pins s σ H R I ⟨σd, S, μ, rs, rl, _, _, e1, fun μ1 H1 v1 st1 r1 q1 => ⟨σd, S1, μ1, r1, rl.mono rs st1, _, _, e3, fun μ2 H2 v2 st2 r2 q2 => ?_⟩⟩
  have q1 := q1.mono r1 st2
  split at e4
  · obtain ⟨rfl, rfl⟩ := pure_ok.mp e4
    cases q1 with
    | tup h rs' =>
      cases q2 with
      | tup h2 rs2 => exact ⟨_, _, _, _, rfl, .inr ⟨h.sqT, h2.sqT, post μ2 H2 _ (st1.trans st2) r2 (src_zipT (fun k => ⟨(k.tupAt h).sqT, (k.tupAt h2).sqT⟩) rs' rs2)⟩⟩
  · obtain ⟨rfl, rfl⟩ := pure_ok.mp e4
    cases q1 with
    | lst h n hh rs' =>
      cases q2 with
      | lst h2 n2 hh2 rs2 => exact ⟨_, _, _, _, rfl, .inl ⟨SqL.of h, SqL.of h2, post μ2 H2 _ (st1.trans st2) r2 (src_zipL (fun k => ⟨SqL.of (k.keep _ _ n hh h), SqL.of (k.keep _ _ n2 hh2 h2)⟩) rs' rs2)⟩⟩
  · cases e4
end

/-! ### readings for any hidden ones -/
def RxGE (X : Cx) (ca : Nat → Addr) (L : List Nat) (t : D → Sl → M Sl) : TG := fun v σ H Q => ∃ ν, RxG (cn X ca ν) L t v σ H Q
def RxTE (X : Cx) (ca : Nat → Addr) (m : Sl → M Bool) : TT := fun σ H Q => ∃ ν, RxT (cn X ca ν) m σ H Q
def RxIE (X : Cx) (ca : Nat → Addr) (m : Sl → M Src) : TI := fun σ H Q => ∃ ν, RxI (cn X ca ν) m σ H Q
section
variable {X Y : Cx} {ca : Nat → Addr}
theorem pg_ex {e : Expr} {L : List Nat} {t : D → Sl → M Sl} (h : ∀ ν, PG X e (RxG (cn X ca ν) L t)) : PG X e (RxGE X ca L t) := ⟨fun pins s σ H v u Q I r ⟨ν, q⟩ => (h ν).run pins s σ H v u Q I r q⟩
theorem pts_ex {e : List Expr} {t : Sl → M Bool} (h : ∀ ν, PTs X e (RxT (cn X ca ν) t)) : PTs X e (RxTE X ca t) := ⟨fun pins s σ H Q I ⟨ν, q⟩ => (h ν).run pins s σ H Q I q⟩
theorem pi_ex {tg e : Expr} {t : Sl → M Src} (h : ∀ ν, PI X tg e (RxI (cn X ca ν) t)) : PI X tg e (RxIE X ca t) := ⟨fun pins s σ H R I ⟨ν, q⟩ => (h ν).run pins s σ H R I q⟩
end

/-! ### comprehensions -/
section
variable {X : Cx} {ca : Nat → Addr} {ν : List Addr} {mi : Sl → M Src} {t : D → Sl → M Sl} {mc : Sl → M Bool} {me : Sl → M D} {vs L : List Nat}
theorem hid_look {c : Cn} {μ μ' : List Addr} {S : Sto} {H H' : Hp} {a : Addr} {o : HO} (r : RelS c μ S H) (hh : a ∈ c.hid) (h : H a = some o) (st : Step μ H μ' H') : H' a = some o := st.keep _ _ (r.hh a hh).1 h
theorem loose_lst {H : Hp} {a : Addr} {xs : List V} (h : H a = some (.lst xs)) : Loose H a := ⟨fun ys z => (by rw [h] at z; cases z), fun o u z => (by rw [h] at z; cases z)⟩
theorem loopC_succ {src : Src} {t : D → M Sl} {c : Sl → M Bool} {e : Sl → M D} {k i : Nat} {S S' : Sto} {ds : List D} (h : loopC src t c e (k + 1) i S = .ok ds S') : ∃ o S1, src.next i S = .ok o S1 ∧
    ((o = none ∧ ds = [] ∧ S1 = S') ∨ ∃ x σ S2 b S3, o = some x ∧ t x S1 = .ok σ S2 ∧ c σ S2 = .ok b S3 ∧
      ((b = true ∧ ∃ d S4 es, e σ S3 = .ok d S4 ∧ loopC src t c e k (i + 1) S4 = .ok es S' ∧ ds = d :: es) ∨ (b = false ∧ loopC src t c e k (i + 1) S3 = .ok ds S'))) := by
  simp only [loopC] at h
  obtain ⟨o, S1, e1, e2⟩ := bind_ok.mp h
  refine ⟨o, S1, e1, ?_⟩
  cases o with
  | none =>
    obtain ⟨rfl, rfl⟩ := pure_ok.mp e2
    exact .inl ⟨rfl, rfl, rfl⟩
  | some x =>
    obtain ⟨σ, S2, e3, e4⟩ := bind_ok.mp e2
    obtain ⟨b, S3, e5, e6⟩ := bind_ok.mp e4
    refine .inr ⟨x, σ, S2, b, S3, rfl, e3, e5, ?_⟩
    cases b with
    | true =>
      rw [if_pos rfl] at e6
      obtain ⟨d, S4, e7, e8⟩ := bind_ok.mp e6
      obtain ⟨es, S5, e9, e10⟩ := bind_ok.mp e8
      obtain ⟨rfl, rfl⟩ := pure_ok.mp e10
      exact .inl ⟨rfl, d, S4, es, e7, e9, rfl⟩
    | false =>
      rw [if_neg Bool.false_ne_true] at e6
      exact .inr ⟨rfl, e6⟩
/-- what stands while a comprehension's new list (by value) grows -/
structure Gr (c : Cn) (μ0 : List Addr) (H0 : Hp) (A : Addr) (dacc : List D) (μ : List Addr) (S : Sto) (H : Hp) : Prop where
  r : RelS (c.hide A) μ S H
  st : Step μ0 H0 μ H
  acc : ∃ us, H A = some (.lst us) ∧ RelDs (c.hide A) μ H dacc us
section
variable {c : Cn} {μ0 μ μ' : List Addr} {H0 H H' : Hp} {A : Addr} {dacc : List D} {S S' : Sto}
theorem Gr.hid (c : Cn) (A : Addr) : A ∈ (c.hide A).hid := List.mem_cons_self
theorem Gr.go (g : Gr c μ0 H0 A dacc μ S H) (st : Step μ H μ' H') (r : RelS (c.hide A) μ' S' H') : Gr c μ0 H0 A dacc μ' S' H' := by
  obtain ⟨us, h1, h2⟩ := g.acc
  exact ⟨r, g.st.trans st, us, hid_look g.r (Gr.hid c A) h1 st, h2.mono g.r st⟩
theorem Gr.app (g : Gr c μ0 H0 A dacc μ S H) (h0 : H0 A = none) {d : D} {v : V} (q : RelD (c.hide A) μ H d v) (hz : dacc.length < sizeLine) :
    ∃ us, H A = some (.lst us) ∧ us.length < sizeLine ∧ Gr c μ0 H0 A (dacc ++ [d]) μ S (upd H A (.lst (us ++ [v]))) ∧ ∀ {σd σ}, RelSl (c.hide A) μ H σd σ → RelSl (c.hide A) μ (upd H A (.lst (us ++ [v]))) σd σ := by
  obtain ⟨us, h1, h2⟩ := g.acc
  have hl := loose_lst h1
  exact ⟨us, h1, by rw [← h2.length]; exact hz, ⟨g.r.updHid (Gr.hid c A) hl, g.st.updNew h0, _, upd_same, RelDs.updHid (Gr.hid c A) hl (h2.append (.cons q .nil))⟩, fun h => h.updHid (Gr.hid c A) hl⟩
theorem Gr.start (r : RelS c μ S H) (h0 : H A = none) : Gr c μ H A [] μ S (upd H A (.lst [])) :=
  ⟨r.hideNew h0, (r.add h0).1, [], upd_same, .nil⟩
theorem Gr.done (g : Gr c μ0 H0 A dacc μ S H) (r0 : ∀ a, a ∈ c.hid → ∃ o, H0 a = some o) (h0 : H0 A = none) {Q : VK} (post : Post c μ0 H0 (.lst dacc) S Q) : Q (.ref A) H := by
  obtain ⟨us, h1, h2⟩ := g.acc
  refine post μ H _ g.st (RelS.unhide (c := c) g.r) (.lst h1 (g.r.hh A (Gr.hid c A)).1 (fun z => ?_) (RelDs.unhide (c := c) h2))
  obtain ⟨o, h⟩ := r0 A z
  rw [h0] at h; cases h
end
theorem rx_lcV (hL : ∀ i ∈ L, i ∈ vs) {fuel : Nat} {σ : L2.St} {H : Hp} {Q : VK} (q : Rx (cn X ca ν) (fun σ => do
    let src ← mi σ
    let ds ← atCap src fuel fun k => loopC src (fun x => t x (wipeD σ vs)) mc me k 0
    let ds ← capped ds
    pure (.lst ds)) σ H Q) : tLc (RxI (cn X ca ν) mi) (RxGE X ca L t) (RxTE X ca mc) (RxE X ca me) vs σ H Q := by
  obtain ⟨σd, S, μ, rs, rl, d, S', e, post⟩ := q
  obtain ⟨src, S1, e1, e2⟩ := bind_ok.mp e
  obtain ⟨ds, S2, e3, e4⟩ := bind_ok.mp e2
  obtain ⟨ds', S3, e5, e6⟩ := bind_ok.mp e4
  obtain ⟨rfl, rfl, hcap⟩ := capped_ok e5
  obtain ⟨rfl, rfl⟩ := pure_ok.mp e6
  refine ⟨σd, S, μ, rs, rl, src, S1, e1, fun μ1 H1 J st1 r1 sok A hA => ?_⟩
  have post := post.after st1
  refine ⟨fun i m H => ∃ μ' S' dacc es, Gr (cn X ca ν) μ1 H1 A dacc μ' S' H ∧ RelSl ((cn X ca ν).hide A) μ' H (wipeD σd vs) (wipe σ vs) ∧ loopC src (fun x => t x (wipeD σd vs)) mc me m i S' = .ok es S2 ∧ dacc ++ es = ds,
    ⟨src.cap S1 + fuel, μ1, S1, [], ds, Gr.start r1 hA, ((rl.mono rs st1).wipe vs).hideNew hA, e3, rfl⟩, ?_⟩
  rintro i m H' ⟨μ', S', dacc, es, g, rl', e7, e8⟩
  cases m with
  | zero => cases e7
  | succ m =>
    obtain ⟨o, S4, n1, n2⟩ := loopC_succ e7
    obtain ⟨rfl, hs, hg⟩ := sok ((cn X ca ν).hide A) μ' S' H' (.of r1 g.st ⟨rfl, rfl, fun a ha => (List.mem_cons.mp ha).elim (fun z => .inr (by rw [z]; exact hA)) .inl⟩ fun a => List.mem_cons_of_mem _) g.r i o S4 n1
    rcases n2 with ⟨rfl, rfl, rfl⟩ | ⟨x, σ1, S5, b, S6, rfl, n3, n4, n5⟩
    · rw [List.append_nil] at e8
      subst e8
      exact .inl ⟨hs rfl, g.done (fun a ha => (r1.hh a ha).2) hA post⟩
    · obtain ⟨go, hy⟩ := hg x rfl
      refine .inr ⟨go, fun H'' => ∃ μ' S' dacc es, Gr (cn X ca ν) μ1 H1 A dacc μ' S' H'' ∧ RelSl ((cn X ca ν).hide A) μ' H'' (wipeD σd vs) (wipe σ vs) ∧ loopC src (fun x => t x (wipeD σd vs)) mc me m (i + 1) S' = .ok es S2 ∧ dacc ++ es = ds,
        fun H'' h => ⟨m, Nat.lt_succ_self m, h⟩, fun v H'' y => ?_⟩
      obtain ⟨st2, r2, q2⟩ := hy v H'' y
      have g2 := g.go st2 r2
      have rl2 := rl'.mono g.r st2
      refine ⟨A :: ν, wipeD σd vs, _, μ', x, r2, rl2, q2, σ1, S5, n3, fun μ3 H3 σ3 st3 r3 rl3 k3 => ⟨by rw [k3.wipe hL, wipe_wipe], ?_⟩⟩
      have g3 := g2.go st3 r3
      refine ⟨A :: ν, σ1, S5, μ3, r3, rl3, b, S6, n4, fun μ4 H4 st4 r4 => ?_⟩
      have g4 := g3.go st4 r4
      have rl4 := (rl2.mono r2 st3).mono r3 st4
      rcases n5 with ⟨rfl, d, S7, es', n6, n7, rfl⟩ | ⟨rfl, n6⟩
      · refine Eq.mpr (if_pos rfl) ?_
        refine ⟨A :: ν, σ1, S6, μ4, r4, rl3.mono r3 st4, d, S7, n6, fun μ5 H5 v5 st5 r5 q5 => ?_⟩
        have g5 := g4.go st5 r5
        have hz : dacc.length < sizeLine := by
          have : (dacc ++ d :: es').length ≤ sizeLine := by rw [e8]; exact hcap
          rw [List.length_append, List.length_cons] at this
          omega
        obtain ⟨us, h1, h2, g6, hrl⟩ := g5.app hA q5 hz
        exact ⟨us, h1, h2, μ5, S7, dacc ++ [d], es', g6, hrl (rl4.mono r4 st5), n7, by rw [List.append_assoc]; exact e8⟩
      · refine Eq.mpr (if_neg Bool.false_ne_true) ?_
        exact ⟨μ4, S6, dacc, es, g4, rl4, n6, e8⟩
theorem loopM_succ {src : Src} {n : Nat} {t : D → M Sl} {c : Sl → M Bool} {e : Sl → M D} {k i : Nat} {S S' : Sto} {u : Unit} (h : loopM src n t c e (k + 1) i S = .ok u S') : ∃ o S1, src.next i S = .ok o S1 ∧
    ((o = none ∧ S1 = S') ∨ ∃ x σ S2 b S3, o = some x ∧ t x S1 = .ok σ S2 ∧ c σ S2 = .ok b S3 ∧
      ((b = true ∧ ∃ d S4 xs, e σ S3 = .ok d S4 ∧ S4[n]? = some (.lst xs) ∧ xs.length < sizeLine ∧ loopM src n t c e k (i + 1) (S4.set n (.lst (xs ++ [d]))) = .ok u S') ∨ (b = false ∧ loopM src n t c e k (i + 1) S3 = .ok u S'))) := by
  simp only [loopM] at h
  obtain ⟨o, S1, e1, e2⟩ := bind_ok.mp h
  refine ⟨o, S1, e1, ?_⟩
  cases o with
  | none =>
    obtain ⟨rfl, rfl⟩ := pure_ok.mp e2
    exact .inl ⟨rfl, rfl⟩
  | some x =>
    obtain ⟨σ, S2, e3, e4⟩ := bind_ok.mp e2
    obtain ⟨b, S3, e5, e6⟩ := bind_ok.mp e4
    refine .inr ⟨x, σ, S2, b, S3, rfl, e3, e5, ?_⟩
    cases b with
    | true =>
      rw [if_pos rfl] at e6
      obtain ⟨d, S4, e7, e8⟩ := bind_ok.mp e6
      obtain ⟨_, S5, e9, e10⟩ := bind_ok.mp e8
      have e9 := stp_ok e9
      split at e9
      · rename_i xs hn
        split at e9
        · rename_i hz
          cases e9
          exact .inl ⟨rfl, d, S4, xs, e7, hn, hz, e10⟩
        · cases e9
      · cases e9
    | false =>
      rw [if_neg Bool.false_ne_true] at e6
      exact .inr ⟨rfl, e6⟩
theorem rx_lcM (hL : ∀ i ∈ L, i ∈ vs) {fuel : Nat} {σ : L2.St} {H : Hp} {Q : VK} (q : Rx (cn X ca ν) (fun σ => do
    let src ← mi σ
    match ← alloc (.lst []) with
    | .hd n => do
      atCap src fuel fun k => loopM src n (fun x => t x (wipeD σ vs)) mc me k 0
      pure (.hd n)
    | _ => fail) σ H Q) : tLc (RxI (cn X ca ν) mi) (RxGE X ca L t) (RxTE X ca mc) (RxE X ca me) vs σ H Q := by
  obtain ⟨σd, S, μ, rs, rl, d, S', e, post⟩ := q
  obtain ⟨src, S1, e1, e2⟩ := bind_ok.mp e
  obtain ⟨h, S2, e3, e4⟩ := bind_ok.mp e2
  obtain ⟨rfl, rfl⟩ := alloc_ok e3
  obtain ⟨_, S3, e5, e6⟩ := bind_ok.mp e4
  obtain ⟨rfl, rfl⟩ := pure_ok.mp e6
  refine ⟨σd, S, μ, rs, rl, src, S1, e1, fun μ1 H1 J st1 r1 sok A hA => ?_⟩
  have post := post.after st1
  have ps := r1.push (o := .lst []) (ho := .lst []) hA ⟨[], rfl, .nil⟩
  refine ⟨fun i m H => ∃ μ' S', RelS (cn X ca ν) μ' S' H ∧ Step μ1 H1 μ' H ∧ μ'[S1.length]? = some A ∧ RelSl (cn X ca ν) μ' H (wipeD σd vs) (wipe σ vs) ∧ loopM src S1.length (fun x => t x (wipeD σd vs)) mc me m i S' = .ok () S3,
    ⟨src.cap (S1 ++ [Ob.lst []]) + fuel, _, _, ps.2, ps.1, by rw [← r1.len]; simp, ((rl.mono rs st1).wipe vs).mono r1 ps.1, e5⟩, ?_⟩
  rintro i m H' ⟨μ', S', r', st', hm, rl', e7⟩
  cases m with
  | zero => cases e7
  | succ m =>
    obtain ⟨o, S4, n1, n2⟩ := loopM_succ e7
    obtain ⟨rfl, hs, hg⟩ := sok (cn X ca ν) μ' S' H' (.of r1 st' (Grow.refl _ _) fun _ h => h) r' i o S4 n1
    rcases n2 with ⟨rfl, rfl⟩ | ⟨x, σ1, S5, b, S6, rfl, n3, n4, n5⟩
    · exact .inl ⟨hs rfl, post μ' H' _ st' r' (.hd hm)⟩
    · obtain ⟨go, hy⟩ := hg x rfl
      refine .inr ⟨go, fun H'' => ∃ μ' S', RelS (cn X ca ν) μ' S' H'' ∧ Step μ1 H1 μ' H'' ∧ μ'[S1.length]? = some A ∧ RelSl (cn X ca ν) μ' H'' (wipeD σd vs) (wipe σ vs) ∧ loopM src S1.length (fun x => t x (wipeD σd vs)) mc me m (i + 1) S' = .ok () S3,
        fun H'' h => ⟨m, Nat.lt_succ_self m, h⟩, fun v H'' y => ?_⟩
      obtain ⟨st2, r2, q2⟩ := hy v H'' y
      have rl2 := rl'.mono r' st2
      refine ⟨ν, wipeD σd vs, _, μ', x, r2, rl2, q2, σ1, S5, n3, fun μ3 H3 σ3 st3 r3 rl3 k3 => ⟨by rw [k3.wipe hL, wipe_wipe], ?_⟩⟩
      refine ⟨ν, σ1, S5, μ3, r3, rl3, b, S6, n4, fun μ4 H4 st4 r4 => ?_⟩
      have rl4 := (rl2.mono r2 st3).mono r3 st4
      have sta := st'.trans (st2.trans (st3.trans st4))
      rcases n5 with ⟨rfl, d, S7, xs, n6, n7, n8, n9⟩ | ⟨rfl, n6⟩
      · refine Eq.mpr (if_pos rfl) ?_
        refine ⟨ν, σ1, S6, μ4, r4, rl3.mono r3 st4, d, S7, n6, fun μ5 H5 v5 st5 r5 q5 => ?_⟩
        have hm5 := get_pre st5.pre (get_pre st4.pre (get_pre st3.pre (get_pre st2.pre hm)))
        obtain ⟨ho, h1, us, e8, h2⟩ := r5.obj n7 hm5
        subst e8
        have sx := r5.set hm5 (o := .lst (xs ++ [d])) (ho := .lst (us ++ [v5])) ⟨_, rfl, h2.append (.cons q5 .nil)⟩
        exact ⟨us, h1, by rw [← h2.length]; exact n8, μ5, _, sx.2, (sta.trans st5).trans sx.1, hm5, (rl4.mono r4 st5).mono r5 sx.1, n9⟩
      · refine Eq.mpr (if_neg Bool.false_ne_true) ?_
        exact ⟨μ4, S6, r4, sta, get_pre st4.pre (get_pre st3.pre (get_pre st2.pre hm)), rl4, n6⟩
theorem loopC2_succ {src : Src} {t : D → M Sl} {c : Sl → M Bool} {e : Sl → M (List D)} {k i : Nat} {S S' : Sto} {ds : List D} (h : loopC2 src t c e (k + 1) i S = .ok ds S') : ∃ o S1, src.next i S = .ok o S1 ∧
    ((o = none ∧ ds = [] ∧ S1 = S') ∨ ∃ x σ S2 b S3, o = some x ∧ t x S1 = .ok σ S2 ∧ c σ S2 = .ok b S3 ∧
      ((b = true ∧ ∃ d S4 es, e σ S3 = .ok d S4 ∧ loopC2 src t c e k (i + 1) S4 = .ok es S' ∧ ds = d ++ es) ∨ (b = false ∧ loopC2 src t c e k (i + 1) S3 = .ok ds S'))) := by
  simp only [loopC2] at h
  obtain ⟨o, S1, e1, e2⟩ := bind_ok.mp h
  refine ⟨o, S1, e1, ?_⟩
  cases o with
  | none =>
    obtain ⟨rfl, rfl⟩ := pure_ok.mp e2
    exact .inl ⟨rfl, rfl, rfl⟩
  | some x =>
    obtain ⟨σ, S2, e3, e4⟩ := bind_ok.mp e2
    obtain ⟨b, S3, e5, e6⟩ := bind_ok.mp e4
    refine .inr ⟨x, σ, S2, b, S3, rfl, e3, e5, ?_⟩
    cases b with
    | true =>
      rw [if_pos rfl] at e6
      obtain ⟨d, S4, e7, e8⟩ := bind_ok.mp e6
      obtain ⟨es, S5, e9, e10⟩ := bind_ok.mp e8
      obtain ⟨rfl, rfl⟩ := pure_ok.mp e10
      exact .inl ⟨rfl, d, S4, es, e7, e9, rfl⟩
    | false =>
      rw [if_neg Bool.false_ne_true] at e6
      exact .inr ⟨rfl, e6⟩
variable {mi1 : Sl → M Src} {t1 : D → Sl → M Sl} {mc1 : Sl → M Bool} {vs1 : List Nat}
theorem rx_lc2 (hL : ∀ i ∈ L, i ∈ vs) {fuel : Nat} {σ : L2.St} {H : Hp} {Q : VK} (q : Rx (cn X ca ν) (fun σ => do
    let src ← mi σ
    let ds ← atCap src fuel fun k => loopC2 src (fun x => t x (wipeD σ vs)) mc (fun σ => do
      let src1 ← mi1 σ
      atCap src1 fuel fun k => loopC src1 (fun x => t1 x (wipeD σ vs1)) mc1 me k 0) k 0
    let ds ← capped ds
    pure (.lst ds)) σ H Q) : tLc2 (RxI (cn X ca ν) mi) (RxGE X ca L t) (RxTE X ca mc) (RxIE X ca mi1) (RxGE X ca vs1 t1) (RxTE X ca mc1) (RxE X ca me) vs vs1 σ H Q := by
  obtain ⟨σd, S, μ, rs, rl, d, S', e, post⟩ := q
  obtain ⟨src, S1, e1, e2⟩ := bind_ok.mp e
  obtain ⟨ds, S2, e3, e4⟩ := bind_ok.mp e2
  obtain ⟨ds', S3, e5, e6⟩ := bind_ok.mp e4
  obtain ⟨rfl, rfl, hcap⟩ := capped_ok e5
  obtain ⟨rfl, rfl⟩ := pure_ok.mp e6
  refine ⟨σd, S, μ, rs, rl, src, S1, e1, fun μ1 H1 J st1 r1 sok A hA => ?_⟩
  have post := post.after st1
  generalize hlp : (fun (m i : Nat) => loopC2 src (fun x => t x (wipeD σd vs)) mc (fun σ => do
      let src1 ← mi1 σ
      atCap src1 fuel fun k => loopC src1 (fun x => t1 x (wipeD σ vs1)) mc1 me k 0) m i) = lp
  have hlp' : ∀ m i, loopC2 src (fun x => t x (wipeD σd vs)) mc (fun σ => do
      let src1 ← mi1 σ
      atCap src1 fuel fun k => loopC src1 (fun x => t1 x (wipeD σ vs1)) mc1 me k 0) m i = lp m i := fun m i => by rw [← hlp]
  have e3 : lp (src.cap S1 + fuel) 0 S1 = .ok ds S2 := by rw [← hlp']; exact e3
  refine ⟨fun i m H => ∃ μ' S' dacc es, Gr (cn X ca ν) μ1 H1 A dacc μ' S' H ∧ RelSl ((cn X ca ν).hide A) μ' H (wipeD σd vs) (wipe σ vs) ∧ lp m i S' = .ok es S2 ∧ dacc ++ es = ds,
    ⟨src.cap S1 + fuel, μ1, S1, [], ds, Gr.start r1 hA, ((rl.mono rs st1).wipe vs).hideNew hA, e3, rfl⟩, ?_⟩
  rintro i m H' ⟨μ', S', dacc, es, g, rl', e7, e8⟩
  cases m with
  | zero => rw [← hlp'] at e7; cases e7
  | succ m =>
    rw [← hlp'] at e7
    obtain ⟨o, S4, n1, n2⟩ := loopC2_succ e7
    obtain ⟨rfl, hs, hg⟩ := sok ((cn X ca ν).hide A) μ' S' H' (.of r1 g.st ⟨rfl, rfl, fun a ha => (List.mem_cons.mp ha).elim (fun z => .inr (by rw [z]; exact hA)) .inl⟩ fun a => List.mem_cons_of_mem _) g.r i o S4 n1
    rcases n2 with ⟨rfl, rfl, rfl⟩ | ⟨x, σ1, S5, b, S6, rfl, n3, n4, n5⟩
    · rw [List.append_nil] at e8
      subst e8
      exact .inl ⟨hs rfl, g.done (fun a ha => (r1.hh a ha).2) hA post⟩
    · obtain ⟨go, hy⟩ := hg x rfl
      refine .inr ⟨go, fun H'' => ∃ μ' S' dacc es, Gr (cn X ca ν) μ1 H1 A dacc μ' S' H'' ∧ RelSl ((cn X ca ν).hide A) μ' H'' (wipeD σd vs) (wipe σ vs) ∧ lp m (i + 1) S' = .ok es S2 ∧ dacc ++ es = ds,
        fun H'' h => ⟨m, Nat.lt_succ_self m, h⟩, fun v H'' y => ?_⟩
      obtain ⟨st2, r2, q2⟩ := hy v H'' y
      have g2 := g.go st2 r2
      have rl2 := rl'.mono g.r st2
      refine ⟨A :: ν, wipeD σd vs, _, μ', x, r2, rl2, q2, σ1, S5, n3, fun μ3 H3 σ3 st3 r3 rl3 k3 => ⟨by rw [k3.wipe hL, wipe_wipe], ?_⟩⟩
      have g3 := g2.go st3 r3
      refine ⟨A :: ν, σ1, S5, μ3, r3, rl3, b, S6, n4, fun μ4 H4 st4 r4 => ?_⟩
      have g4 := g3.go st4 r4
      have rl4 := (rl2.mono r2 st3).mono r3 st4
      have rl3' := rl3.mono r3 st4
      rcases n5 with ⟨rfl, ds1, S7, es', n6, n7, rfl⟩ | ⟨rfl, n6⟩
      · refine Eq.mpr (if_pos rfl) ?_
        rw [hlp'] at n7
        obtain ⟨src1, S8, n8, n9⟩ := bind_ok.mp n6
        refine ⟨A :: ν, σ1, S6, μ4, r4, rl3', src1, S8, n8, fun μ5 H5 J1 st5 r5 sok1 => ?_⟩
        have g5 := g4.go st5 r5
        have rl5 := rl4.mono r4 st5
        have rw5 := (rl3'.mono r4 st5).wipe vs1
        refine ⟨fun j k H => ∃ μ' S' dacc es1, Gr (cn X ca ν) μ1 H1 A dacc μ' S' H ∧ Carry ((cn X ca ν).hide A) μ5 H5 ((cn X ca ν).hide A) μ' H ∧ RelSl ((cn X ca ν).hide A) μ' H (wipeD σd vs) (wipe σ vs) ∧ RelSl ((cn X ca ν).hide A) μ' H (wipeD σ1 vs1) (wipe σ3 vs1) ∧
          loopC src1 (fun x => t1 x (wipeD σ1 vs1)) mc1 me k j S' = .ok es1 S7 ∧ (dacc ++ es1) ++ es' = ds, ⟨src1.cap S8 + fuel, μ5, S8, dacc, ds1, g5, Carry.refl _ _ _, rl5, rw5, n9, by rw [List.append_assoc]; exact e8⟩, ?_⟩
        rintro j k H6 ⟨μ6, S9, dacc6, es6, g6, st6, rl6, rw6, n10, n11⟩
        cases k with
        | zero => cases n10
        | succ k =>
          obtain ⟨o, S10, p1, p2⟩ := loopC_succ n10
          obtain ⟨rfl, hs1, hg1⟩ := sok1 ((cn X ca ν).hide A) μ6 S9 H6 st6 g6.r j o S10 p1
          rcases p2 with ⟨rfl, rfl, rfl⟩ | ⟨x1, σ7, S11, b1, S12, rfl, p3, p4, p5⟩
          · rw [List.append_nil] at n11
            exact .inl ⟨hs1 rfl, μ6, _, dacc6, es', g6, rl6, n7, n11⟩
          · obtain ⟨go1, hy1⟩ := hg1 x1 rfl
            refine .inr ⟨go1, fun H => ∃ μ' S' dacc es1, Gr (cn X ca ν) μ1 H1 A dacc μ' S' H ∧ Carry ((cn X ca ν).hide A) μ5 H5 ((cn X ca ν).hide A) μ' H ∧ RelSl ((cn X ca ν).hide A) μ' H (wipeD σd vs) (wipe σ vs) ∧ RelSl ((cn X ca ν).hide A) μ' H (wipeD σ1 vs1) (wipe σ3 vs1) ∧
              loopC src1 (fun x => t1 x (wipeD σ1 vs1)) mc1 me k (j + 1) S' = .ok es1 S7 ∧ (dacc ++ es1) ++ es' = ds, fun H'' h => ⟨k, Nat.lt_succ_self k, h⟩, fun v1 H7 y1 => ?_⟩
            obtain ⟨st7, r7, q7⟩ := hy1 v1 H7 y1
            have g7 := g6.go st7 r7
            have rl7 := rl6.mono g6.r st7
            have rw7 := rw6.mono g6.r st7
            refine ⟨A :: ν, wipeD σ1 vs1, _, μ6, x1, r7, rw7, q7, σ7, S11, p3, fun μ8 H8 σ8 st8 r8 rl8 k8 => ⟨by rw [k8.wipe (fun i h => h), wipe_wipe], ?_⟩⟩
            have g8 := g7.go st8 r8
            refine ⟨A :: ν, σ7, S11, μ8, r8, rl8, b1, S12, p4, fun μ9 H9 st9 r9 => ?_⟩
            have g9 := g8.go st9 r9
            have rl9 := (rl7.mono r7 st8).mono r8 st9
            have rw9 := (rw7.mono r7 st8).mono r8 st9
            have stt := st6.step g6.r (st7.trans (st8.trans st9))
            rcases p5 with ⟨rfl, d1, S13, es7, p6, p7, rfl⟩ | ⟨rfl, p6⟩
            · refine Eq.mpr (if_pos rfl) ?_
              refine ⟨A :: ν, σ7, S12, μ9, r9, rl8.mono r8 st9, d1, S13, p6, fun μa Ha va sta ra qa => ?_⟩
              have ga := g9.go sta ra
              have hz : dacc6.length < sizeLine := by
                have : ((dacc6 ++ d1 :: es7) ++ es').length ≤ sizeLine := by rw [n11]; exact hcap
                rw [List.length_append, List.length_append, List.length_cons] at this
                omega
              obtain ⟨us, h1, h2, gb, hrl⟩ := ga.app hA qa hz
              refine ⟨us, h1, h2, μa, S13, dacc6 ++ [d1], es7, gb, ?_, hrl (rl9.mono r9 sta), hrl (rw9.mono r9 sta), p7, by rw [List.append_assoc dacc6]; exact n11⟩
              obtain ⟨ul, hul, _⟩ := ga.acc
              exact (stt.step r9 sta).upd (Gr.hid _ A) (loose_lst hul)
            · refine Eq.mpr (if_neg Bool.false_ne_true) ?_
              exact ⟨μ9, S12, dacc6, es6, g9, stt, rl9, rw9, p6, n11⟩
      · refine Eq.mpr (if_neg Bool.false_ne_true) ?_
        exact ⟨μ4, S6, dacc, es, g4, rl4, by rw [← hlp']; exact n6, e8⟩
end
end Mp
set_option Elab.async false
set_option linter.all false
set_option maxRecDepth 100000
set_option maxHeartbeats 1000000
namespace Mp
open PySem PySem.Spec PyProof.Rows L2

/-! ### statements -/
def PostN (c : Cn) (μ : List Addr) (H : Hp) (σd : Sl) (S' : Sto) (Q : L2.St → Hp → Prop) : Prop := ∀ μ' H' σ', Step μ H μ' H' → RelS c μ' S' H' → RelSl c μ' H' σd σ' → Q σ' H'
def PostF (c : Cn) (μ : List Addr) (H : Hp) (σd : Sl) (S' : Sto) (D : Ends) : Fl → Prop
  | .nx => PostN c μ H σd S' D.nx
  | .bk => PostN c μ H σd S' D.bk
  | .ct => PostN c μ H σd S' D.ct
  | .rt d => Post c μ H d S' D.rt
def RxS (c : Cn) (m : Sl → M (Fl × Sl)) : TS := fun D σ H => ∃ σd S μ, RelS c μ S H ∧ RelSl c μ H σd σ ∧ ∃ r S', m σd S = .ok r S' ∧ PostF c μ H r.2 S' D r.1
theorem PostN.after {c : Cn} {μ μ1 : List Addr} {H H1 : Hp} {σd : Sl} {S' : Sto} {Q : L2.St → Hp → Prop} (p : PostN c μ H σd S' Q) (st : Step μ H μ1 H1) : PostN c μ1 H1 σd S' Q := fun μ' H' v s r q => p μ' H' v (st.trans s) r q
theorem PostF.after {c : Cn} {μ μ1 : List Addr} {H H1 : Hp} {σd : Sl} {S' : Sto} {D : Ends} {f : Fl} (p : PostF c μ H σd S' D f) (st : Step μ H μ1 H1) : PostF c μ1 H1 σd S' D f := by
  cases f with
  | nx => exact PostN.after p st
  | bk => exact PostN.after p st
  | ct => exact PostN.after p st
  | rt d => exact Post.after p st
/-- .. with the same store -/
theorem RxS.of {c : Cn} {m : Sl → M (Fl × Sl)} {D : Ends} {σ : L2.St} {H : Hp} {σd : Sl} {S : Sto} {μ : List Addr} {r : Fl × Sl} {S' : Sto} (rs : RelS c μ S H) (rl : RelSl c μ H σd σ) (e : m σd S = .ok r S') (p : PostF c μ H r.2 S' D r.1) : RxS c m D σ H := ⟨σd, S, μ, rs, rl, r, S', e, p⟩
section
variable {X : Cx} {ca : Nat → Addr} {ν : List Addr} {ma mb mo : Sl → M D} {me : Sl → M (List D)} {a b e o tg it : Expr} {es : List Expr} {pos p : Pos} {st : Stmt} {rest body orelse : List Stmt} {m1 m2 : Sl → M (Fl × Sl)}
theorem dss_nil : PSs X [] (RxS (cn X ca ν) fun σ => pure (.nx, σ)) := by
  refine pss_imp pss_nil fun D σ H q => ?_
  obtain ⟨σd, S, μ, rs, rl, r, S', e, post⟩ := q
  obtain ⟨rfl, rfl⟩ := pure_ok.mp e
  exact post μ H σ (Step.refl _ _) rs rl
theorem dss_cons (h1 : PS X st (RxS (cn X ca ν) m1)) (h2 : PSs X rest (RxS (cn X ca ν) m2)) : PSs X (st :: rest) (RxS (cn X ca ν) fun σ => do
    let x ← m1 σ
    match x.1 with
    | .nx => m2 x.2
    | _ => pure x) := by
  refine pss_imp (pss_cons h1 h2) fun D σ H q => ?_
  obtain ⟨σd, S, μ, rs, rl, r, S', e, post⟩ := q
  obtain ⟨⟨f, σ1⟩, S1, e1, e2⟩ := bind_ok.mp e
  refine ⟨σd, S, μ, rs, rl, (f, σ1), S1, e1, ?_⟩
  cases f with
  | nx => exact fun μ' H' σ' st1 r1 rl1 => ⟨σ1, S1, μ', r1, rl1, r, S', e2, post.after st1⟩
  | bk => obtain ⟨rfl, rfl⟩ := pure_ok.mp e2; exact post
  | ct => obtain ⟨rfl, rfl⟩ := pure_ok.mp e2; exact post
  | rt d => obtain ⟨rfl, rfl⟩ := pure_ok.mp e2; exact post
theorem ds_pass : PS X (.Pass pos) (RxS (cn X ca ν) fun σ => pure (.nx, σ)) := by
  refine ps_imp ps_pass fun D σ H q => ?_
  obtain ⟨σd, S, μ, rs, rl, r, S', e, post⟩ := q
  obtain ⟨rfl, rfl⟩ := pure_ok.mp e
  exact post μ H σ (Step.refl _ _) rs rl
theorem ds_brk : PS X (.Break pos) (RxS (cn X ca ν) fun σ => pure (.bk, σ)) := by
  refine ps_imp ps_break fun D σ H q => ?_
  obtain ⟨σd, S, μ, rs, rl, r, S', e, post⟩ := q
  obtain ⟨rfl, rfl⟩ := pure_ok.mp e
  exact post μ H σ (Step.refl _ _) rs rl
theorem ds_cont : PS X (.Continue pos) (RxS (cn X ca ν) fun σ => pure (.ct, σ)) := by
  refine ps_imp ps_continue fun D σ H q => ?_
  obtain ⟨σd, S, μ, rs, rl, r, S', e, post⟩ := q
  obtain ⟨rfl, rfl⟩ := pure_ok.mp e
  exact post μ H σ (Step.refl _ _) rs rl
theorem ds_expr (h : isComp e = false) (he : PE X e (Rx (cn X ca ν) ma)) : PS X (.Expr e pos) (RxS (cn X ca ν) fun σ => do
    let _ ← ma σ
    pure (.nx, σ)) := by
  refine ps_imp (ps_expr he (by cases e <;> first | rfl | simp [isComp] at h)) fun D σ H q => ?_
  obtain ⟨σd, S, μ, rs, rl, r, S', e, post⟩ := q
  obtain ⟨x, S1, e1, e2⟩ := bind_ok.mp e
  obtain ⟨rfl, rfl⟩ := pure_ok.mp e2
  exact ⟨σd, S, μ, rs, rl, x, _, e1, fun μ1 H1 v1 st1 r1 q1 => post μ1 H1 σ st1 r1 (rl.mono rs st1)⟩
theorem ds_retN : PS X (.Return none pos) (RxS (cn X ca ν) fun σ => pure (.rt .non, σ)) := by
  refine ps_imp ps_retN fun D σ H q => ?_
  obtain ⟨σd, S, μ, rs, rl, r, S', e, post⟩ := q
  obtain ⟨rfl, rfl⟩ := pure_ok.mp e
  exact post μ H _ (Step.refl _ _) rs .non
theorem ds_ret (he : PE X e (Rx (cn X ca ν) ma)) : PS X (.Return (some e) pos) (RxS (cn X ca ν) fun σ => do
    let d ← ma σ
    pure (.rt d, σ)) := by
  refine ps_imp (ps_ret he) fun D σ H q => ?_
  obtain ⟨σd, S, μ, rs, rl, r, S', e, post⟩ := q
  obtain ⟨x, S1, e1, e2⟩ := bind_ok.mp e
  obtain ⟨rfl, rfl⟩ := pure_ok.mp e2
  exact ⟨σd, S, μ, rs, rl, x, _, e1, post⟩
theorem ds_if {c : Expr} (hc : PT X c (RxT (cn X ca ν) fun σ => test (ma σ))) (h1 : PSs X body (RxS (cn X ca ν) m1)) (h2 : PSs X orelse (RxS (cn X ca ν) m2)) : PS X (.If c body orelse pos) (RxS (cn X ca ν) fun σ => do
    if ← test (ma σ) then m1 σ else m2 σ) := by
  refine ps_imp (ps_if hc h1 h2) fun D σ H q => ?_
  obtain ⟨σd, S, μ, rs, rl, r, S', e, post⟩ := q
  obtain ⟨k, S1, e1, e2⟩ := bind_ok.mp e
  refine ⟨σd, S, μ, rs, rl, k, S1, e1, fun μ1 H1 st1 r1 => ?_⟩
  cases k with
  | true =>
    refine Eq.mpr (if_pos rfl) ?_
    rw [if_pos rfl] at e2
    exact ⟨σd, S1, μ1, r1, rl.mono rs st1, r, S', e2, post.after st1⟩
  | false =>
    refine Eq.mpr (if_neg Bool.false_ne_true) ?_
    rw [if_neg Bool.false_ne_true] at e2
    exact ⟨σd, S1, μ1, r1, rl.mono rs st1, r, S', e2, post.after st1⟩
theorem rxs_asg {L : List Nat} {t : D → Sl → M Sl} {D : Ends} {σ : L2.St} {H : Hp} (q : RxS (cn X ca ν) (fun σ => do
    let d ← ma σ
    let σ1 ← t d σ
    pure (.nx, σ1)) D σ H) : Rx (cn X ca ν) ma σ H fun x H1 => RxG (cn X ca ν) L t x σ H1 D.nx := by
  obtain ⟨σd, S, μ, rs, rl, r, S', e, post⟩ := q
  obtain ⟨x, S1, e1, e2⟩ := bind_ok.mp e
  obtain ⟨σ1, S2, e3, e4⟩ := bind_ok.mp e2
  obtain ⟨rfl, rfl⟩ := pure_ok.mp e4
  exact ⟨σd, S, μ, rs, rl, x, S1, e1, fun μ1 H1 v1 st1 r1 q1 => ⟨σd, S1, μ1, x, r1, rl.mono rs st1, q1, σ1, _, e3, fun μ' H' σ' st2 r2 rl2 _ => post μ' H' σ' (st1.trans st2) r2 rl2⟩⟩
theorem ds_asg {L : List Nat} {t : D → Sl → M Sl} (he : PE X e (Rx (cn X ca ν) ma)) (hg : PG X tg (RxG (cn X ca ν) L t)) (hn : nostar tg = true) (hs : swapsWith e (some tg) pos.line X.env = pure false) (hw : swappedStores [tg] e X.env = pure none) :
    PS X (.Assign [tg] e pos) (RxS (cn X ca ν) fun σ => do
    let d ← ma σ
    let σ1 ← t d σ
    pure (.nx, σ1)) := ps_imp (ps_asg he hg hs hw (by rw [assignEach_cons hn]; rfl)) fun D σ H q => rxs_asg q
theorem rxs_nm {i : Nat} {D : Ends} {σ : L2.St} {H : Hp} (q : RxS (cn X ca ν) (fun σ => do
    let d ← ma σ
    let σ1 ← pure (σ.set i (some d))
    pure (.nx, σ1)) D σ H) : Rx (cn X ca ν) ma σ H fun x H1 => gName i x σ H1 D.nx := by
  obtain ⟨σd, S, μ, rs, rl, r, S', e, post⟩ := q
  obtain ⟨x, S1, e1, e2⟩ := bind_ok.mp e
  obtain ⟨σ1, S2, e3, e4⟩ := bind_ok.mp e2
  obtain ⟨rfl, rfl⟩ := pure_ok.mp e3
  obtain ⟨rfl, rfl⟩ := pure_ok.mp e4
  exact ⟨σd, S, μ, rs, rl, x, _, e1, fun μ1 H1 v1 st1 r1 q1 => post μ1 H1 _ st1 r1 ((rl.mono rs st1).set i q1)⟩
theorem ds_par {i j : Nat} {x y : Str} {px py pt : Pos} {kt k2 pt2} (hc : X.calm = true) (hN : X.N.Nodup) (hi : X.N[i]? = some x) (hj : X.N[j]? = some y) (hij : i ≠ j)
    (hx : X.env.scope.names.lookup x = some .local) (hy : X.env.scope.names.lookup y = some .local) (ha : PA X [a, b] (RxA (cn X ca ν) me))
    (hw : swappedStores [.Tuple [.Name x px, .Name y py] kt pt] (.Tuple [a, b] k2 pt2) X.env = pure (some [x, y])) :
    PS X (.Assign [.Tuple [.Name x px, .Name y py] kt pt] (.Tuple [a, b] k2 pt2) pos) (RxS (cn X ca ν) fun σ => do
      let ds ← me σ
      match setAll [i, j] ds σ with
      | some σ1 => pure (.nx, σ1)
      | none => fail) := by
  refine ps_imp (ps_par hc hN hi hj hij hx hy ha hw) fun D σ H q => ?_
  obtain ⟨σd, S, μ, rs, rl, r, S', e, post⟩ := q
  obtain ⟨ds, S1, e1, e2⟩ := bind_ok.mp e
  refine ⟨σd, S, μ, rs, rl, ds, S1, e1, fun μ1 H1 vs st1 r1 q1 => ?_⟩
  cases q1 with
  | nil => simp only [setAll] at e2; cases e2
  | cons q1 t =>
    cases t with
    | nil => simp only [setAll] at e2; cases e2
    | cons q2 t =>
      cases t with
      | nil =>
        simp only [setAll] at e2
        obtain ⟨rfl, rfl⟩ := pure_ok.mp e2
        exact ⟨_, _, rfl, post μ1 H1 _ st1 r1 (((rl.mono rs st1).set i q1).set j q2)⟩
      | cons _ _ => simp only [setAll] at e2; cases e2
theorem ds_par3 {i j l : Nat} {x y z : Str} {a b c : Expr} {px py pz pt : Pos} {kt k2 pt2} (hc : X.calm = true) (hN : X.N.Nodup) (hi : X.N[i]? = some x) (hj : X.N[j]? = some y) (hl : X.N[l]? = some z) (hij : i ≠ j) (hil : i ≠ l) (hjl : j ≠ l)
    (hx : X.env.scope.names.lookup x = some .local) (hy : X.env.scope.names.lookup y = some .local) (hz : X.env.scope.names.lookup z = some .local) (ha : PA X [a, b, c] (RxA (cn X ca ν) me))
    (hw : swappedStores [.Tuple [.Name x px, .Name y py, .Name z pz] kt pt] (.Tuple [a, b, c] k2 pt2) X.env = pure (some [x, y, z])) :
    PS X (.Assign [.Tuple [.Name x px, .Name y py, .Name z pz] kt pt] (.Tuple [a, b, c] k2 pt2) pos) (RxS (cn X ca ν) fun σ => do
      let ds ← me σ
      match setAll [i, j, l] ds σ with
      | some σ1 => pure (.nx, σ1)
      | none => fail) := by
  refine ps_imp (ps_par3 hc hN hi hj hl hij hil hjl hx hy hz ha hw) fun D σ H q => ?_
  obtain ⟨σd, S, μ, rs, rl, r, S', e, post⟩ := q
  obtain ⟨ds, S1, e1, e2⟩ := bind_ok.mp e
  refine ⟨σd, S, μ, rs, rl, ds, S1, e1, fun μ1 H1 vs st1 r1 q1 => ?_⟩
  cases q1 with
  | nil => simp only [setAll] at e2; cases e2
  | cons q1 t =>
    cases t with
    | nil => simp only [setAll] at e2; cases e2
    | cons q2 t =>
      cases t with
      | nil => simp only [setAll] at e2; cases e2
      | cons q3 t =>
        cases t with
        | nil =>
          simp only [setAll] at e2
          obtain ⟨rfl, rfl⟩ := pure_ok.mp e2
          exact ⟨_, _, _, rfl, post μ1 H1 _ st1 r1 ((((rl.mono rs st1).set i q1).set j q2).set l q3)⟩
        | cons _ _ => simp only [setAll] at e2; cases e2
theorem aug_sound (o : Op2) : PIp X (opOf o) (rOp (cn X ca ν) fun x y => rd fun S => augP S o x y) := by
  intro pins s σ H x y v u Q I rx ry h
  obtain ⟨S, μ, dx, dy, r, qx, qy, d, S', e, post⟩ := h
  obtain ⟨e, rfl⟩ := rd_ok.mp e
  unfold augP at e
  split at e
  · cases e
    cases qx
    cases qy
    exact ip_add pins s σ H _ _ _ _ _ I rx ry ⟨_, _, rfl, rfl, post.now r (.int _)⟩
  · cases e
    cases qx
    cases qy
    exact ip_sub pins s σ H _ _ _ _ _ I rx ry ⟨_, _, rfl, rfl, post.now r (.int _)⟩
  · split at e
    · rename_i hz
      cases e
      cases qx
      cases qy
      exact in_addS pins s σ H _ _ _ _ _ I rx ry ⟨_, _, rfl, rfl, hz, post.now r (.str _)⟩
    · cases e
  · cases e
theorem ds_aug {i : Nat} {x : Str} (o : Op2) (hN : X.N.Nodup) (hi : X.N[i]? = some x) (hx : Loc X.env.scope x) (hf : X.fn x = true ∨ X.env.scope.names.lookup x = some .local) (he : PE X e (Rx (cn X ca ν) ma)) :
    PS X (.AugAssign (.Name x p) (opOf o) e pos) (RxS (cn X ca ν) fun σ => match σ[i]? with
    | some (some x) => do
      let y ← ma σ
      let z ← rd fun S => augP S o x y
      pure (.nx, σ.set i (some z))
    | _ => fail) := by
  refine ps_imp (ps_aug hN hi hx he (aug_sound (ca := ca) (ν := ν) o) hf) fun D σ H q => ?_
  obtain ⟨σd, S, μ, rs, rl, r, S', e, post⟩ := q
  rcases e0 : σd[i]? with _ | _ | x0
  · simp only [e0] at e; cases e
  · simp only [e0] at e; cases e
  · simp only [e0] at e
    obtain ⟨v0, hv, q0⟩ := rl.get e0
    obtain ⟨y, S1, e1, e2⟩ := bind_ok.mp e
    obtain ⟨z, S2, e3, e4⟩ := bind_ok.mp e2
    obtain ⟨rfl, rfl⟩ := pure_ok.mp e4
    refine ⟨v0, hv, σd, S, μ, rs, rl, y, S1, e1, fun μ1 H1 v1 st1 r1 q1 => ⟨S1, μ1, x0, y, r1, q0.mono rs st1, q1, z, _, e3, fun μ2 H2 v2 st2 r2 q2 => ?_⟩⟩
    exact post μ2 H2 _ (st1.trans st2) r2 ((rl.mono rs (st1.trans st2)).set i q2)
theorem ds_augF {f : Str} (op : Op2) (hC : ∀ n, Cls X.K (ca n) ∧ NoAttr X.K (ca n) f) (ho : PE X o (Rx (cn X ca ν) mo)) (he : PE X e (Rx (cn X ca ν) ma)) :
    PS X (.AugAssign (.Attribute o f p) (opOf op) e pos) (RxS (cn X ca ν) fun σ => do
    let x ← mo σ
    let C ← rd fun S => clsP S x
    let v ← rd fun S => fldP S x f
    let w ← ma σ
    let z ← rd fun S => augP S op v w
    stp fun S => setFC S C x f z
    pure (.nx, σ)) := by
  refine ps_imp (ps_fldaug ho he (aug_sound (ca := ca) (ν := ν) op)) fun D σ H q => ?_
  obtain ⟨σd, S, μ, rs, rl, r, S', e, post⟩ := q
  obtain ⟨x, S1, e1, e2⟩ := bind_ok.mp e
  obtain ⟨Cx, S0, e01, e02⟩ := bind_ok.mp e2
  obtain ⟨e01, rfl⟩ := rd_ok.mp e01
  obtain ⟨v, S2, e3, e4⟩ := bind_ok.mp e02
  obtain ⟨e3, rfl⟩ := rd_ok.mp e3
  obtain ⟨w, S3, e5, e6⟩ := bind_ok.mp e4
  obtain ⟨z, S4, e7, e8⟩ := bind_ok.mp e6
  obtain ⟨u, S5, e9, e10⟩ := bind_ok.mp e8
  obtain ⟨rfl, rfl⟩ := pure_ok.mp e10
  have e9 := stp_ok e9
  obtain ⟨e7', rfl⟩ := rd_ok.mp e7
  refine ⟨σd, S, μ, rs, rl, x, _, e1, fun μ1 H1 v1 st1 r1 q1 => ?_⟩
  unfold fldP at e3
  split at e3
  · rename_i n
    split at e3
    · rename_i Ci fs hn
      cases q1 with
      | hd hm =>
        obtain ⟨ho, h1, dx, vs, e11, h2⟩ := r1.obj hn hm
        subst e11
        obtain ⟨v0, h3, h4⟩ := (ins_look (f := f) (d := v) h2).1 v e3
        refine ⟨_, ca Ci, dx, vs, v0, rfl, h1, (hC Ci).1, (hC Ci).2, h3, σd, _, μ1, r1, rl.mono rs st1, w, _, e5, fun μ2 H2 v2 st2 r2 q2 => ⟨_, μ2, v, w, r2, h4.mono r1 st2, q2, z, _, e7, fun μ3 H3 v3 st3 r3 q3 => ?_⟩⟩
        unfold setFC at e9
        split at e9
        · rename_i hcl
          unfold setF at e9
          simp only at e9
          split at e9
          · rename_i C' fs' hn'
            split at e9
            · rename_i hl
              cases e9
              have hm3 := get_pre st3.pre (get_pre st2.pre hm)
              obtain ⟨ho', h1', dx', vs', e12, h2'⟩ := r3.obj hn' hm3
              subst e12
              have hcc : C' = Ci := by
                simp only [clsP, hn] at e01
                simp only [clsP, hn'] at hcl
                cases e01
                cases hcl
                rfl
              subst hcc
              have sx := r3.set hm3 (o := .ins C' (putFD f z fs')) (ho := .ins (ca C') dx' (putF f v3 vs')) ⟨dx', _, rfl, putF_rel q3 h2'⟩
              have sa := st1.trans (st2.trans (st3.trans sx.1))
              exact ⟨dx', vs', h1', by rw [← paired_len h2']; exact hl, post μ3 _ σ sa sx.2 (rl.mono rs sa)⟩
            · cases e9
          · cases e9
        · cases e9
    · cases e3
  · cases e3

/-! ### loops -/
theorem loopF_succ {src : Src} {t : D → Sl → M Sl} {b : Sl → M (Fl × Sl)} {k i : Nat} {σ : Sl} {S S' : Sto} {r : Fl × Sl} (h : loopF src t b (k + 1) i σ S = .ok r S') : ∃ o S1, src.next i S = .ok o S1 ∧
    ((o = none ∧ r = (.nx, σ) ∧ S1 = S') ∨ ∃ x σ1 S2 q S3, o = some x ∧ t x σ S1 = .ok σ1 S2 ∧ b σ1 S2 = .ok q S3 ∧
      ((∃ d, q.1 = .rt d ∧ r = (.rt d, q.2) ∧ S3 = S') ∨ (q.1 = .bk ∧ r = (.nx, q.2) ∧ S3 = S') ∨ ((q.1 = .nx ∨ q.1 = .ct) ∧ loopF src t b k (i + 1) q.2 S3 = .ok r S'))) := by
  simp only [loopF] at h
  obtain ⟨o, S1, e1, e2⟩ := bind_ok.mp h
  refine ⟨o, S1, e1, ?_⟩
  cases o with
  | none =>
    obtain ⟨rfl, rfl⟩ := pure_ok.mp e2
    exact .inl ⟨rfl, rfl, rfl⟩
  | some x =>
    obtain ⟨σ1, S2, e3, e4⟩ := bind_ok.mp e2
    obtain ⟨⟨f, σ2⟩, S3, e5, e6⟩ := bind_ok.mp e4
    refine .inr ⟨x, σ1, S2, (f, σ2), S3, rfl, e3, e5, ?_⟩
    cases f with
    | rt d => obtain ⟨rfl, rfl⟩ := pure_ok.mp e6; exact .inl ⟨d, rfl, rfl, rfl⟩
    | bk => obtain ⟨rfl, rfl⟩ := pure_ok.mp e6; exact .inr (.inl ⟨rfl, rfl, rfl⟩)
    | nx => exact .inr (.inr ⟨.inl rfl, e6⟩)
    | ct => exact .inr (.inr ⟨.inr rfl, e6⟩)
theorem ds_for {L : List Nat} {mi : Sl → M Src} {t : D → Sl → M Sl} {fuel : Nat} (hp : PassesOwn (model X.prog X.w) X.A X.env X.xe) (hc : X.calm = true) (hi : PI X tg it (RxI (cn X ca ν) mi)) (hg : PG X tg (RxG (cn X ca ν) L t)) (hb : PSs X body (RxS (cn X ca ν) m1))
    (hs : ∀ x, foldedSetIterable it X.env x = pure x) : PS X (.For tg it body [] pos) (RxS (cn X ca ν) fun σ => do
      let src ← mi σ
      atCap src fuel fun k => loopF src t m1 k 0 σ) := by
  refine ps_imp (ps_for hp hc hi hg hb hs) fun D σ H q => ?_
  obtain ⟨σd, S, μ, rs, rl, r, S', e, post⟩ := q
  obtain ⟨src, S1, e1, e2⟩ := bind_ok.mp e
  refine ⟨σd, S, μ, rs, rl, src, S1, e1, fun μ1 H1 J st1 r1 sok => ?_⟩
  have post := post.after st1
  refine ⟨fun i m σ H => ∃ μ' S1' σd', RelS (cn X ca ν) μ' S1' H ∧ Step μ1 H1 μ' H ∧ RelSl (cn X ca ν) μ' H σd' σ ∧ loopF src t m1 m i σd' S1' = .ok r S', ⟨src.cap S1 + fuel, μ1, S1, σd, r1, Step.refl _ _, rl.mono rs st1, e2⟩, ?_⟩
  rintro i m σ' H' ⟨μ', S1', σd', r', st', rl', e3⟩
  cases m with
  | zero => cases e3
  | succ m =>
    obtain ⟨o, S4, n1, n2⟩ := loopF_succ e3
    obtain ⟨rfl, hs, hg⟩ := sok (cn X ca ν) μ' S1' H' (.of r1 st' (Grow.refl _ _) fun _ h => h) r' i o S4 n1
    rcases n2 with ⟨rfl, rfl, rfl⟩ | ⟨x, σ1, S5, q, S6, rfl, n3, n4, n5⟩
    · exact .inl ⟨hs rfl, post μ' H' σ' st' r' rl'⟩
    · obtain ⟨go, hy⟩ := hg x rfl
      refine .inr ⟨go, fun σ'' H'' => ∃ μ' S1' σd', RelS (cn X ca ν) μ' S1' H'' ∧ Step μ1 H1 μ' H'' ∧ RelSl (cn X ca ν) μ' H'' σd' σ'' ∧ loopF src t m1 m (i + 1) σd' S1' = .ok r S', fun σ'' H'' h => ⟨m, Nat.lt_succ_self m, h⟩, fun v H'' y => ?_⟩
      obtain ⟨st2, r2, q2⟩ := hy v H'' y
      refine ⟨σd', _, μ', x, r2, rl'.mono r' st2, q2, σ1, S5, n3, fun μ3 H3 σ3 st3 r3 rl3 _ => ⟨σ1, S5, μ3, r3, rl3, q, S6, n4, ?_⟩⟩
      have sta := st'.trans (st2.trans st3)
      obtain ⟨f, σ2⟩ := q
      rcases n5 with ⟨d, rfl, rfl, rfl⟩ | ⟨rfl, rfl, rfl⟩ | ⟨hf, n6⟩
      · exact post.after sta
      · exact post.after sta
      · have fin : PostN (cn X ca ν) μ3 H3 σ2 S6 (fun σ'' H'' => ∃ μ' S1' σd', RelS (cn X ca ν) μ' S1' H'' ∧ Step μ1 H1 μ' H'' ∧ RelSl (cn X ca ν) μ' H'' σd' σ'' ∧ loopF src t m1 m (i + 1) σd' S1' = .ok r S') :=
          fun μ4 H4 σ4 st4 r4 rl4 => ⟨μ4, S6, σ2, r4, sta.trans st4, rl4, n6⟩
        rcases hf with rfl | rfl
        · exact fin
        · exact fin
theorem loopW_succ {c : Sl → M Bool} {b : Sl → M (Fl × Sl)} {k : Nat} {σ : Sl} {S S' : Sto} {r : Fl × Sl} (h : loopW c b (k + 1) σ S = .ok r S') : ∃ v S1, c σ S = .ok v S1 ∧
    ((v = false ∧ r = (.nx, σ) ∧ S1 = S') ∨ (v = true ∧ ∃ q S3, b σ S1 = .ok q S3 ∧
      ((∃ d, q.1 = .rt d ∧ r = (.rt d, q.2) ∧ S3 = S') ∨ (q.1 = .bk ∧ r = (.nx, q.2) ∧ S3 = S') ∨ ((q.1 = .nx ∨ q.1 = .ct) ∧ loopW c b k q.2 S3 = .ok r S')))) := by
  simp only [loopW] at h
  obtain ⟨v, S1, e1, e2⟩ := bind_ok.mp h
  refine ⟨v, S1, e1, ?_⟩
  cases v with
  | false =>
    rw [if_neg Bool.false_ne_true] at e2
    obtain ⟨rfl, rfl⟩ := pure_ok.mp e2
    exact .inl ⟨rfl, rfl, rfl⟩
  | true =>
    rw [if_pos rfl] at e2
    obtain ⟨⟨f, σ2⟩, S3, e5, e6⟩ := bind_ok.mp e2
    refine .inr ⟨rfl, (f, σ2), S3, e5, ?_⟩
    cases f with
    | rt d => obtain ⟨rfl, rfl⟩ := pure_ok.mp e6; exact .inl ⟨d, rfl, rfl, rfl⟩
    | bk => obtain ⟨rfl, rfl⟩ := pure_ok.mp e6; exact .inr (.inl ⟨rfl, rfl, rfl⟩)
    | nx => exact .inr (.inr ⟨.inl rfl, e6⟩)
    | ct => exact .inr (.inr ⟨.inr rfl, e6⟩)
theorem ds_while {c : Expr} {fuel : Nat} (hp : PassesOwn (model X.prog X.w) X.A X.env X.xe) (hc : PT X c (RxT (cn X ca ν) fun σ => test (ma σ))) (hb : PSs X body (RxS (cn X ca ν) m1)) : PS X (.While c body [] pos) (RxS (cn X ca ν) fun σ =>
      loopW (fun σ => test (ma σ)) m1 fuel σ) := by
  refine ps_imp (ps_while hp hc hb) fun D σ H q => ?_
  obtain ⟨σd, S, μ, rs, rl, r, S', e, post⟩ := q
  refine ⟨fun m σ' H' => ∃ μ' S1 σd', RelS (cn X ca ν) μ' S1 H' ∧ Step μ H μ' H' ∧ RelSl (cn X ca ν) μ' H' σd' σ' ∧ loopW (fun σ => test (ma σ)) m1 m σd' S1 = .ok r S', ⟨fuel, μ, S, σd, rs, Step.refl _ _, rl, e⟩, ?_⟩
  rintro m σ' H' ⟨μ', S1, σd', r', st', rl', e3⟩
  cases m with
  | zero => cases e3
  | succ m =>
    obtain ⟨v, S4, n1, n2⟩ := loopW_succ e3
    refine ⟨σd', S1, μ', r', rl', v, S4, n1, fun μ2 H2 st2 r2 => ?_⟩
    have rl2 := rl'.mono r' st2
    rcases n2 with ⟨rfl, rfl, rfl⟩ | ⟨rfl, q, S6, n4, n5⟩
    · refine Eq.mpr (if_neg Bool.false_ne_true) ?_
      exact post μ2 H2 σ' (st'.trans st2) r2 rl2
    · refine Eq.mpr (if_pos rfl) ?_
      refine ⟨fun σ'' H'' => ∃ μ' S1 σd', RelS (cn X ca ν) μ' S1 H'' ∧ Step μ H μ' H'' ∧ RelSl (cn X ca ν) μ' H'' σd' σ'' ∧ loopW (fun σ => test (ma σ)) m1 m σd' S1 = .ok r S', fun σ'' H'' h => ⟨m, Nat.lt_succ_self m, h⟩, σd', S4, μ2, r2, rl2, q, S6, n4, ?_⟩
      have sta := st'.trans st2
      obtain ⟨f, σ2⟩ := q
      rcases n5 with ⟨d, rfl, rfl, rfl⟩ | ⟨rfl, rfl, rfl⟩ | ⟨hf, n6⟩
      · exact post.after sta
      · exact post.after sta
      · have fin : PostN (cn X ca ν) μ2 H2 σ2 S6 (fun σ'' H'' => ∃ μ' S1 σd', RelS (cn X ca ν) μ' S1 H'' ∧ Step μ H μ' H'' ∧ RelSl (cn X ca ν) μ' H'' σd' σ'' ∧ loopW (fun σ => test (ma σ)) m1 m σd' S1 = .ok r S') :=
          fun μ4 H4 σ4 st4 r4 rl4 => ⟨μ4, S6, σ2, r4, sta.trans st4, rl4, n6⟩
        rcases hf with rfl | rfl
        · exact fin
        · exact fin
end
end Mp
set_option Elab.async false
set_option linter.all false
set_option maxRecDepth 100000
set_option maxHeartbeats 4000000
namespace Mp
open PySem PySem.Spec PyProof.Rows L2

/-! ### what the text around a def says -/
structure Wd (G : Gx) (P : En) (ca : Nat → Addr) (N : List Str) (X : Cx) (sc : Scope) : Prop where
  calm : X.calm = true
  room : X.A.units + 65 < cLine
  nm : X.N = N
  nd : N.Nodup
  sc : X.env.scope = sc
  blt : ∀ x, G.blt.contains x = true → X.mg x = none
  glb : ∀ x j, G.glbs.lookup x = some j → ∃ v u, X.mg x = some u ∧ RelV v u ∧ ∀ ν μ H, RelD (cn X ca ν) μ H (P.glob j) v
  fld : ∀ f, G.flds.contains f = true → ∀ n, Cls X.K (ca n) ∧ NoAttr X.K (ca n) f
  fns : ∀ x i, G.fns.lookup x = some i → ∃ k f fd ps, X.mg x = some (.ref f) ∧ PySem.W.keepIn X.K (.ref f) = true ∧ FnOk X.prog X.w X.K X.mg X.base CX0 k f fd ps (spD X ca (P.call i)) ∧ Room k X.A ∧ Binds X.K fd ps []
  cls : ∀ x C i, G.clss.lookup x = some C → P.ini C = some i → (∀ ds S, P.callI i ds S = .bad) ∨ ∃ k f fd ps, X.mg x = some (.ref (ca C)) ∧ Mk X.K (ca C) f ∧ FnOk X.prog X.w X.K X.mg X.base CX0 k f fd ps (spD X ca (P.callI i)) ∧ Room (k + 1) X.A ∧ Binds X.K fd ps []
  mth : ∀ m, G.meths.contains m = true → MethOk X ca (fun C => P.meth C m) P.call m
def Asn (X : Cx) (sc : Scope) (ok : Str → Bool) : Prop := ∀ x, ok x = true → isLoc sc x = true → X.fn x = true ∨ X.env.scope.names.lookup x = some .local
def Es.len : Es → Nat
  | .nil => 0
  | .cons _ r => r.len + 1
def Ts.len : Ts → Nat
  | .nil => 0
  | .cons _ r => r.len + 1
theorem evEs_len {P : En} : ∀ {xs : Es} {σ : Sl} {S S' : Sto} {ds : List D}, evEs P xs σ S = .ok ds S' → ds.length = xs.len
  | .nil, σ, S, S', ds, e => by
    simp only [evEs] at e
    obtain ⟨rfl, _⟩ := pure_ok.mp e
    rfl
  | .cons x xs, σ, S, S', ds, e => by
    simp only [evEs] at e
    obtain ⟨d, S1, e1, e2⟩ := bind_ok.mp e
    obtain ⟨r, S2, e3, e4⟩ := bind_ok.mp e2
    obtain ⟨rfl, _⟩ := pure_ok.mp e4
    rw [List.length_cons, evEs_len e3]
    rfl
theorem evTs_len {P : En} : ∀ {ts : Ts} {ds : List D} {σ : Sl} {S S' : Sto} {σ' : Sl}, evTs P ts ds σ S = .ok σ' S' → ds.length = ts.len
  | .nil, [], _, _, _, _, _ => rfl
  | .nil, _ :: _, σ, S, S', _, e => by simp only [evTs] at e; cases e
  | .cons t ts, [], σ, S, S', _, e => by simp only [evTs] at e; cases e
  | .cons t ts, d :: ds, σ, S, S', σ', e => by
    simp only [evTs] at e
    obtain ⟨σ1, S1, e1, e2⟩ := bind_ok.mp e
    rw [List.length_cons, evTs_len e2]
    rfl

def evDisp (P : En) : Es → List (Sl → M D)
  | .nil => []
  | .cons e r => evE P e :: evDisp P r
theorem evDisp_seq (P : En) : ∀ es : Es, evEs P es = seqM (evDisp P es)
  | .nil => by funext σ; simp only [evEs, evDisp, seqM]
  | .cons e r => by
    funext σ
    simp only [evEs, evDisp, seqM]
    rw [evDisp_seq P r]
theorem evDisp_len (P : En) : ∀ es : Es, (evDisp P es).length = es.len
  | .nil => rfl
  | .cons e r => by simp [evDisp, Es.len, evDisp_len P r]
def Each (X : Cx) (ca : Nat → Addr) (P : En) : List Expr → Es → Prop
  | [], .nil => True
  | e :: r, .cons x xs => (nostar e = true ∧ ∀ ν, PE X e (Rx (cn X ca ν) (evE P x))) ∧ Each X ca P r xs
  | _, _ => False
structure Snd (G : Gx) (P : En) (ca : Nat → Addr) (N : List Str) (n : Nat) : Prop where
  e : ∀ {X : Cx} {sc : Scope} {e : Expr} {x : E}, Wd G P ca N X sc → cE G N n sc e = some x → ∀ ν, PE X e (Rx (cn X ca ν) (evE P x)) ∧ PT X e (RxT (cn X ca ν) fun σ => test (evE P x σ))
  es : ∀ {X : Cx} {sc : Scope} {es : List Expr} {xs : Es}, Wd G P ca N X sc → cEs G N n sc es = some xs → es.all nostar = true ∧ xs.len = es.length ∧ ∀ ν, PA X es (RxA (cn X ca ν) (evEs P xs))
  dp : ∀ {X : Cx} {sc : Scope} {es : List Expr} {xs : Es}, Wd G P ca N X sc → cEs G N n sc es = some xs → ∀ {pos : Pos} {keys : List (Option Expr)} {ks : List Key}, keyC keys = some ks → keys.length = es.length → PPs X pos keys es (trsOf X ca ks (evDisp P xs))
  each : ∀ {X : Cx} {sc : Scope} {es : List Expr} {xs : Es}, Wd G P ca N X sc → cEs G N n sc es = some xs → Each X ca P es xs
  and : ∀ {X : Cx} {sc : Scope} {es : List Expr} {x : E}, Wd G P ca N X sc → cAnd G N n sc es = some x → es ≠ [] ∧ ∀ ν pos, PE X (.BoolOp .And es pos) (Rx (cn X ca ν) (evE P x)) ∧ PW X (.BoolOp .And es pos) (RxT (cn X ca ν) fun σ => test (evE P x σ))
  or : ∀ {X : Cx} {sc : Scope} {es : List Expr} {x : E}, Wd G P ca N X sc → cOr G N n sc es = some x → es ≠ [] ∧ ∀ ν pos, PE X (.BoolOp .Or es pos) (Rx (cn X ca ν) (evE P x)) ∧ PW X (.BoolOp .Or es pos) (RxT (cn X ca ν) fun σ => test (evE P x σ))
  eo : ∀ {X : Cx} {sc : Scope} {e : Option Expr} {x : Eo}, Wd G P ca N X sc → cEo G N n sc e = some x → ∀ ν, PO X e (RxO (cn X ca ν) (evI P x))
  ifs : ∀ {X : Cx} {sc : Scope} {e : List Expr} {x : Eo}, Wd G P ca N X sc → cIfs G N n sc e = some x → ∀ ν, PTs X e (RxT (cn X ca ν) (evC P x))
  it : ∀ {X : Cx} {sc : Scope} {tup : Bool} {e tg : Expr} {x : It}, Wd G P ca N X sc → cIt G N n sc tup e = some x → (tup = true → ∃ elts kk tpos, tg = .Tuple elts kk tpos) → ∀ ν, PI X tg e (RxI (cn X ca ν) (evIt P x))
  t : ∀ {X : Cx} {sc : Scope} {ok : Str → Bool} {e : Expr} {t : T}, Wd G P ca N X sc → Asn X sc ok → cT G N n ok sc e = some t → ∀ ν, PG X e (RxG (cn X ca ν) (slT t) (evT P t))
  ts : ∀ {X : Cx} {sc : Scope} {ok : Str → Bool} {es : List Expr} {ts : Ts}, Wd G P ca N X sc → Asn X sc ok → cTs G N n ok sc es = some ts → es.all nostar = true ∧ ts.len = es.length ∧ ∀ ν, PGs X es (RxGs (cn X ca ν) (slTs ts) (evTs P ts))

section
variable {G : Gx} {P : En} {ca : Nat → Addr} {N : List Str} {n : Nat} {X : Cx} {sc : Scope}
theorem Wd.gl (W : Wd G P ca N X sc) {x : Str} (h : isGl sc x = true) : Gl X x ∧ okName x = true := by
  unfold isGl at h
  rw [Bool.and_eq_true] at h
  refine ⟨?_, h.1⟩
  have h2 := h.2
  show X.env.scope.names.lookup x = _
  rw [W.sc]
  split at h2
  · assumption
  · cases h2
theorem Wd.vis (W : Wd G P ca N X sc) {x : Str} (h : isVis sc x = true) : Vis X.env.scope x ∧ okName x = true := by
  unfold isVis at h
  rw [Bool.and_eq_true] at h
  refine ⟨?_, h.1⟩
  have h2 := h.2
  rw [W.sc]
  unfold Vis
  split at h2
  · exact .inl (by assumption)
  · exact .inr (.inl (by assumption))
  · exact .inr (.inr (by assumption))
  · cases h2
theorem Wd.loc (W : Wd G P ca N X sc) {x : Str} (h : isLoc sc x = true) : L2.Loc X.env.scope x := by
  unfold isLoc at h
  rw [W.sc]
  unfold L2.Loc
  split at h
  · exact .inl (by assumption)
  · exact .inr (by assumption)
  · cases h
theorem Wd.glB (W : Wd G P ca N X sc) {x : Str} (h : glB G sc x = true) : Gl X x ∧ okName x = true ∧ X.mg x = none := by
  unfold Mp.glB at h
  rw [Bool.and_eq_true] at h
  exact ⟨(W.gl h.1).1, (W.gl h.1).2, W.blt x h.2⟩
/-- a name -/
theorem snd_name (W : Wd G P ca N X sc) {x : Str} {p : Pos} {y : E} (h : cName G N sc x = some y) (ν : List Addr) : PE X (.Name x p) (Rx (cn X ca ν) (evE P y)) := by
  unfold cName at h
  split at h
  · rename_i hv
    obtain ⟨i, h1, rfl⟩ := Option.map_eq_some_iff.mp h
    obtain ⟨v1, v2⟩ := W.vis hv
    exact de_loc W.nm (ixOf_get h1) v1 v2
  · split at h
    · rename_i hg
      obtain ⟨j, h1, rfl⟩ := Option.map_eq_some_iff.mp h
      obtain ⟨g1, g2⟩ := W.gl hg
      obtain ⟨v, u, m, r, q⟩ := W.glb x j h1
      simp only [okName, Bool.and_eq_true, Bool.not_eq_true'] at g2
      exact de_cst (pe_glob g1 m r g2.1.1) (q ν)
    · cases h
theorem snd_cst {c : Const} {d : D} {j : Nat} {p : Pos} (h : cstOf c = some d) (ν : List Addr) : PE X (.Constant c j p) (Rx (cn X ca ν) (evE P (.cst d))) := by
  cases c <;> simp only [cstOf, Option.some.injEq] at h
  all_goals first
    | (cases h; done)
    | subst h
  all_goals first
    | exact de_cst pe_int fun _ _ => .int _
    | exact de_cst pe_bl fun _ _ => .bl _
    | exact de_cst pe_non fun _ _ => .non
    | exact de_cst pe_str fun _ _ => .str _
theorem pt_ite {a b d : Expr} {ma mb mc : Sl → M D} {ν : List Addr} {pos : Pos} (hc : PT X d (RxT (cn X ca ν) fun σ => test (mc σ))) (ha : PT X a (RxT (cn X ca ν) fun σ => test (ma σ))) (hb : PT X b (RxT (cn X ca ν) fun σ => test (mb σ))) :
    PT X (.IfExp d a b pos) (RxT (cn X ca ν) fun σ => test (do
    if ← test (mc σ) then ma σ else mb σ)) := by
  refine ⟨fun pins s σ H Q I q => ?_⟩
  obtain ⟨σd, S, μ, rs, rl, v, S', e, post⟩ := q
  obtain ⟨d, S0, e1, e2⟩ := bind_ok.mp (show (M.bind _ fun d => rd fun S => truP S d) S = .ok v S' from e)
  obtain ⟨k, S1, e3, e4⟩ := bind_ok.mp e1
  have h1 : RxT (cn X ca ν) (fun σ => test (mc σ)) σ H fun k H1 => if k = true then RxT (cn X ca ν) (fun σ => test (ma σ)) σ H1 Q else RxT (cn X ca ν) (fun σ => test (mb σ)) σ H1 Q := by
    refine ⟨σd, S, μ, rs, rl, k, S1, e3, fun μ1 H1 st1 r1 => ?_⟩
    cases k with
    | true =>
      refine Eq.mpr (if_pos rfl) ?_
      rw [if_pos rfl] at e4
      exact ⟨σd, S1, μ1, r1, rl.mono rs st1, v, S', bind_ok.mpr ⟨d, S0, e4, e2⟩, fun μ2 H2 st2 r2 => post μ2 H2 (st1.trans st2) r2⟩
    | false =>
      refine Eq.mpr (if_neg Bool.false_ne_true) ?_
      rw [if_neg Bool.false_ne_true] at e4
      exact ⟨σd, S1, μ1, r1, rl.mono rs st1, v, S', bind_ok.mpr ⟨d, S0, e4, e2⟩, fun μ2 H2 st2 r2 => post μ2 H2 (st1.trans st2) r2⟩
  refine isTrue_IfExp (thn (hc.run pins s σ H _ I h1) fun k s1 ⟨H1, I1, q1⟩ => ?_)
  cases k with
  | true => exact ha.run pins s1 σ H1 Q I1 (by simpa using q1)
  | false => exact hb.run pins s1 σ H1 Q I1 (by simpa using q1)

/-- lists of arguments -/
theorem snd_es (I : Snd G P ca N n) (W : Wd G P ca N X sc) {es : List Expr} {xs : Es} (h : cEs G N (n + 1) sc es = some xs) : es.all nostar = true ∧ xs.len = es.length ∧ ∀ ν, PA X es (RxA (cn X ca ν) (evEs P xs)) := by
  cases es with
  | nil =>
    simp only [cEs, Option.some.injEq] at h
    subst h
    exact ⟨rfl, rfl, fun ν => da_nil⟩
  | cons e r =>
    simp only [cEs] at h
    split at h
    · rename_i hn
      split at h
      · rename_i x xs' h1 h2
        cases h
        obtain ⟨i1, i2, i3⟩ := I.es W h2
        exact ⟨by rw [List.all_cons, hn, i1]; rfl, by rw [List.length_cons, ← i2]; rfl, fun ν => da_cons hn (I.e W h1 ν).1 (i3 ν)⟩
      · cases h
    · cases h
theorem snd_each (I : Snd G P ca N n) (W : Wd G P ca N X sc) {es : List Expr} {xs : Es} (h : cEs G N (n + 1) sc es = some xs) : Each X ca P es xs := by
  cases es with
  | nil =>
    simp only [cEs, Option.some.injEq] at h
    subst h
    trivial
  | cons e r =>
    simp only [cEs] at h
    split at h
    · rename_i hn
      split at h
      · rename_i x xs' h1 h2
        cases h
        exact ⟨⟨hn, fun ν => (I.e W h1 ν).1⟩, I.each W h2⟩
      · cases h
    · cases h
theorem keyC_some : ∀ {keys : List (Option Expr)} {ks : List Key}, keyC keys = some ks → keys.all (·.isSome) = true ∧ ks.length = keys.length
  | [], ks, h => by simp only [keyC, Option.some.injEq] at h; subst h; exact ⟨rfl, rfl⟩
  | k :: r, ks, h => by
    unfold keyC at h
    split at h
    · rename_i heq; cases heq
    · rename_i heq
      cases heq
      obtain ⟨ks', h1, rfl⟩ := Option.map_eq_some_iff.mp h
      obtain ⟨i1, i2⟩ := keyC_some h1
      exact ⟨by rw [List.all_cons, i1]; rfl, by simp [i2]⟩
    · rename_i heq
      cases heq
      obtain ⟨ks', h1, rfl⟩ := Option.map_eq_some_iff.mp h
      obtain ⟨i1, i2⟩ := keyC_some h1
      exact ⟨by rw [List.all_cons, i1]; rfl, by simp [i2]⟩
    · cases h
theorem snd_dp (I : Snd G P ca N n) (W : Wd G P ca N X sc) {es : List Expr} {xs : Es} (h : cEs G N (n + 1) sc es = some xs) {pos : Pos} {keys : List (Option Expr)} {ks : List Key} (hk : keyC keys = some ks) (hl : keys.length = es.length) : PPs X pos keys es (trsOf X ca ks (evDisp P xs)) := by
  cases es with
  | nil =>
    cases keys with
    | nil =>
      simp only [keyC, Option.some.injEq] at hk
      subst hk
      exact pps_nil
    | cons _ _ => cases hl
  | cons e r =>
    cases keys with
    | nil => cases hl
    | cons k kr =>
      simp only [cEs] at h
      split at h
      · split at h
        · rename_i x xs' h1 h2
          cases h
          unfold keyC at hk
          split at hk
          · rename_i heq; cases heq
          · rename_i heq
            cases heq
            obtain ⟨ks', h3, rfl⟩ := Option.map_eq_some_iff.mp hk
            exact pps_cons pe_str (pe_ex fun ν => (I.e W h1 ν).1) (I.dp W h2 h3 (by simpa using hl))
          · rename_i heq
            cases heq
            obtain ⟨ks', h3, rfl⟩ := Option.map_eq_some_iff.mp hk
            exact pps_cons pe_int (pe_ex fun ν => (I.e W h1 ν).1) (I.dp W h2 h3 (by simpa using hl))
          · cases hk
        · cases h
      · cases h
theorem snd_and (I : Snd G P ca N n) (W : Wd G P ca N X sc) {es : List Expr} {x : E} (h : cAnd G N (n + 1) sc es = some x) : es ≠ [] ∧ ∀ ν pos, PE X (.BoolOp .And es pos) (Rx (cn X ca ν) (evE P x)) ∧ PW X (.BoolOp .And es pos) (RxT (cn X ca ν) fun σ => test (evE P x σ)) := by
  match es, h with
  | [], h => simp only [cAnd] at h; cases h
  | [e], h =>
    simp only [cAnd] at h
    exact ⟨by simp, fun ν pos => ⟨pe_one (I.e W h ν).1, pw_and1 (I.e W h ν).2⟩⟩
  | e :: e2 :: r, h =>
    simp only [cAnd] at h
    split at h
    · rename_i x1 x2 h1 h2
      cases h
      obtain ⟨_, i2⟩ := I.and W h2
      exact ⟨by simp, fun ν pos => ⟨de_and (I.e W h1 ν).1 (i2 ν pos).1, dw_and (I.e W h1 ν).2 (i2 ν pos).2⟩⟩
    · cases h
theorem snd_or (I : Snd G P ca N n) (W : Wd G P ca N X sc) {es : List Expr} {x : E} (h : cOr G N (n + 1) sc es = some x) : es ≠ [] ∧ ∀ ν pos, PE X (.BoolOp .Or es pos) (Rx (cn X ca ν) (evE P x)) ∧ PW X (.BoolOp .Or es pos) (RxT (cn X ca ν) fun σ => test (evE P x σ)) := by
  match es, h with
  | [], h => simp only [cOr] at h; cases h
  | [e], h =>
    simp only [cOr] at h
    exact ⟨by simp, fun ν pos => ⟨pe_one (I.e W h ν).1, pw_or1 (I.e W h ν).2⟩⟩
  | e :: e2 :: r, h =>
    simp only [cOr] at h
    split at h
    · rename_i x1 x2 h1 h2
      cases h
      obtain ⟨_, i2⟩ := I.or W h2
      exact ⟨by simp, fun ν pos => ⟨de_or (I.e W h1 ν).1 (i2 ν pos).1, dw_or (I.e W h1 ν).2 (i2 ν pos).2⟩⟩
    · cases h
theorem snd_eo (I : Snd G P ca N n) (W : Wd G P ca N X sc) {e : Option Expr} {x : Eo} (h : cEo G N (n + 1) sc e = some x) (ν : List Addr) : PO X e (RxO (cn X ca ν) (evI P x)) := by
  cases e with
  | none =>
    simp only [cEo, Option.some.injEq] at h
    subst h
    exact do_no
  | some e =>
    simp only [cEo] at h
    obtain ⟨y, h1, rfl⟩ := Option.map_eq_some_iff.mp h
    exact do_yes (I.e W h1 ν).1
theorem snd_ifs (I : Snd G P ca N n) (W : Wd G P ca N X sc) {e : List Expr} {x : Eo} (h : cIfs G N (n + 1) sc e = some x) (ν : List Addr) : PTs X e (RxT (cn X ca ν) (evC P x)) := by
  match e, h with
  | [], h =>
    simp only [cIfs, Option.some.injEq] at h
    subst h
    refine ⟨fun pins s σ H Q I q => pts_nil.run pins s σ H Q I ?_⟩
    obtain ⟨σd, S, μ, rs, rl, b, S', e, post⟩ := q
    obtain ⟨rfl, rfl⟩ := pure_ok.mp (show (pure true : M Bool) S = .ok b S' from e)
    exact post μ H (Step.refl _ _) rs
  | [e], h =>
    simp only [cIfs] at h
    obtain ⟨y, h1, rfl⟩ := Option.map_eq_some_iff.mp h
    exact pts_one (I.e W h1 ν).2
  | _ :: _ :: _, h => simp only [cIfs] at h; cases h
theorem es_one {n : Nat} {sc : Scope} {es : List Expr} {x : E} (h : cEs G N (n + 1) sc es = some (.cons x .nil)) : ∃ e, es = [e] ∧ nostar e = true ∧ cE G N n sc e = some x := by
  match es, h with
  | [], h => simp only [cEs] at h; cases h
  | e :: r, h =>
    simp only [cEs] at h
    split at h
    · rename_i hn
      split at h
      · rename_i x' xs' h1 h2
        cases h
        cases n with
        | zero => simp only [cEs] at h2; cases h2
        | succ n =>
          match r, h2 with
          | [], _ => exact ⟨e, rfl, hn, h1⟩
          | e2 :: r, h2 =>
            simp only [cEs] at h2
            split at h2
            · split at h2
              · cases h2
              · cases h2
            · cases h2
      · cases h
    · cases h
theorem es_two {n : Nat} {sc : Scope} {es : List Expr} {x y : E} (h : cEs G N (n + 1) sc es = some (.cons x (.cons y .nil))) : ∃ e e2 m, es = [e, e2] ∧ nostar e = true ∧ nostar e2 = true ∧ cE G N n sc e = some x ∧ n = m + 1 ∧ cE G N m sc e2 = some y := by
  match es, h with
  | [], h => simp only [cEs] at h; cases h
  | e :: r, h =>
    simp only [cEs] at h
    split at h
    · rename_i hn
      split at h
      · rename_i x' xs' h1 h2
        cases h
        cases n with
        | zero => simp only [cEs] at h2; cases h2
        | succ n =>
          obtain ⟨e2, rfl, h3, h4⟩ := es_one h2
          exact ⟨e, e2, n, rfl, hn, h3, h1, rfl, h4⟩
      · cases h
    · cases h
theorem snd_ts (I : Snd G P ca N n) (W : Wd G P ca N X sc) {ok : Str → Bool} (A : Asn X sc ok) {es : List Expr} {ts : Ts} (h : cTs G N (n + 1) ok sc es = some ts) : es.all nostar = true ∧ ts.len = es.length ∧ ∀ ν, PGs X es (RxGs (cn X ca ν) (slTs ts) (evTs P ts)) := by
  cases es with
  | nil =>
    simp only [cTs, Option.some.injEq] at h
    subst h
    refine ⟨rfl, rfl, fun ν => ?_⟩
    refine ⟨fun pins s σ H vs us Q I' rv q => (dgs_nil (ca := ca) (ν := ν)).run pins s σ H vs us Q I' rv ?_⟩
    obtain ⟨σd, S, μ, ds, r, rl, q, σd', S', e, post⟩ := q
    exact ⟨σd, S, μ, ds, r, rl, q, σd', S', by cases ds <;> exact e, post⟩
  | cons e r =>
    simp only [cTs] at h
    split at h
    · rename_i hn
      split at h
      · rename_i x xs' h1 h2
        cases h
        obtain ⟨i1, i2, i3⟩ := I.ts W A h2
        refine ⟨by rw [List.all_cons, hn, i1]; rfl, by rw [List.length_cons, ← i2]; rfl, fun ν => ?_⟩
        refine ⟨fun pins s σ H vs us Q I' rv q => (dgs_cons hn (I.t W A h1 ν) (i3 ν)).run pins s σ H vs us Q I' rv ?_⟩
        obtain ⟨σd, S, μ, ds, r, rl, q, σd', S', e, post⟩ := q
        exact ⟨σd, S, μ, ds, r, rl, q, σd', S', by cases ds <;> exact e, post⟩
      · cases h
    · cases h
theorem snd_t (I : Snd G P ca N n) (W : Wd G P ca N X sc) {ok : Str → Bool} (A : Asn X sc ok) {e : Expr} {t : T} (h : cT G N (n + 1) ok sc e = some t) (ν : List Addr) : PG X e (RxG (cn X ca ν) (slT t) (evT P t)) := by
  unfold cT at h
  split at h
  · split at h
    · rename_i x p hx
      rw [Bool.and_eq_true] at hx
      obtain ⟨i, h1, rfl⟩ := Option.map_eq_some_iff.mp h
      exact dg_nm (by rw [W.nm]; exact W.nd) (by rw [W.nm]; exact ixOf_get h1) (W.loc hx.1) (A _ hx.2 hx.1)
    · cases h
  · obtain ⟨ts, h1, rfl⟩ := Option.map_eq_some_iff.mp h
    obtain ⟨i1, i2, i3⟩ := I.ts W A h1
    refine ⟨fun pins s σ H v u Q I' rv q => (dg_tup W.calm i1 (fun ds σ S σ' S' e => by rw [← i2]; exact evTs_len e) (i3 ν)).run pins s σ H v u Q I' rv ?_⟩
    obtain ⟨σd, S, μ, d, r, rl, q, σd', S', e, post⟩ := q
    exact ⟨σd, S, μ, d, r, rl, q, σd', S', by cases d <;> exact e, post⟩
  · cases h
  · split at h
    · rename_i i _ hns _ _ x y h1 h2
      cases h
      have hsl : notSl i = true := by
        cases i <;> first | rfl | exact (hns _ _ _ _ rfl).elim
      exact dg_sub W.room hsl (I.e W h1 ν).1 (I.e W h2 ν).1
    · cases h
  · split at h
    · rename_i hf
      obtain ⟨x, h1, rfl⟩ := Option.map_eq_some_iff.mp h
      exact dg_fld (W.fld _ hf) (I.e W h1 ν).1
    · cases h
  · cases h
end
end Mp
set_option Elab.async false
set_option linter.all false
set_option maxRecDepth 100000
set_option maxHeartbeats 4000000
namespace Mp
open PySem PySem.Spec PyProof.Rows L2

/-- e, as a value and as a test -/
def Both (X : Cx) (ca : Nat → Addr) (P : En) (e : Expr) (x : E) : Prop := ∀ ν, PE X e (Rx (cn X ca ν) (evE P x)) ∧ PT X e (RxT (cn X ca ν) fun σ => test (evE P x σ))
section
variable {G : Gx} {P : En} {ca : Nat → Addr} {N : List Str} {n : Nat} {X : Cx} {sc : Scope} {pos : Pos}
theorem Both.of {e : Expr} {x : E} (h : ∀ ν, PE X e (Rx (cn X ca ν) (evE P x))) (hi : ∀ whole, isTrue e X.env whole = (do let v ← whole; standAt e.pos; holding [v] (truthy v))) : Both X ca P e x := fun ν => ⟨h ν, rx_test (h ν) rfl hi⟩
theorem op2_of {op : Operator} {o : Op2} (h : op2Of op = some o) : op = opOf o := by
  cases op <;> simp only [op2Of, Option.some.injEq] at h <;> first | (subst h; rfl) | cases h
theorem cop2_of {op : CmpOp} {o : Cop} (h : cop2Of op = some o) : op = copOf o := by
  cases op <;> simp only [cop2Of, Option.some.injEq] at h <;> first | (subst h; rfl) | cases h
theorem tyOf_str {x : Str} {t : Ty} (h : tyOf x = some t) : x = tyStr t := by
  have := List.find?_some h
  exact (of_decide_eq_true this).symm
theorem biOf_nm {x : Str} {k : Nat} {b : Bi} (h : biOf x k = some b) : x = biNm b := by
  unfold biOf at h
  split at h
  · have := List.find?_some h
    exact (of_decide_eq_true this).symm
  · split at h
    · have := List.find?_some h
      exact (of_decide_eq_true this).symm
    · cases h
theorem biOf_ne {x : Str} {k : Nat} {b : Bi} (h : biOf x k = some b) : k ≠ 0 := by
  unfold biOf at h
  rintro rfl
  simp at h
theorem bfOf_nm {x : Str} {k : Nat} {b : Bf} (h : bfOf x k = some b) : x = bfNm b ∧ k ≠ 0 := by
  unfold bfOf at h
  split at h
  · rename_i hk
    have := List.find?_some h
    exact ⟨(of_decide_eq_true this).symm, by omega⟩
  · cases h
theorem bmOf_nm {x : Str} {b : Bm} (h : bmOf x = some b) : x = bmNm b := by
  have := List.find?_some h
  exact (of_decide_eq_true this).symm
theorem cTys_ok (W : Wd G P ca N X sc) : ∀ {es : List Expr} {ts : List Ty}, cTys G sc es = some ts → (∃ ps : List Pos, es = List.zipWith (fun t p => Expr.Name (tyStr t) p) ts ps ∧ ps.length = ts.length) ∧ ∀ t ∈ ts, Gl X (tyStr t) ∧ X.mg (tyStr t) = none
  | [], ts, h => by
    simp only [cTys, Option.some.injEq] at h
    subst h
    exact ⟨⟨[], rfl, rfl⟩, fun t h => by cases h⟩
  | e :: r, ts, h => by
    cases e with
    | Name x p =>
      simp only [cTys] at h
      split at h
      · rename_i hg
        split at h
        · rename_i t ts' h1 h2
          cases h
          obtain ⟨⟨ps, e1, e2⟩, i2⟩ := cTys_ok W h2
          have hx := tyOf_str h1
          subst hx
          obtain ⟨g1, _, g3⟩ := W.glB hg
          refine ⟨⟨p :: ps, by rw [e1]; rfl, by simp [e2]⟩, fun t' ht => ?_⟩
          rcases List.mem_cons.mp ht with rfl | ht
          · exact ⟨g1, g3⟩
          · exact i2 t' ht
        · cases h
      · cases h
    | _ => simp only [cTys] at h; cases h
/-- within a comprehension's block -/
theorem Wd.blk (W : Wd G P ca N X sc) (s : Shared) (H : Hp) (scope : Scope) (cl : List (Str × Addr)) (C : Addr) (fp : List Addr) : Wd G P ca N (X.blk s H scope (compEnvC scope cl C X.env) fp) (relS scope sc) :=
  ⟨W.calm, W.room, W.nm, W.nd, by rw [← W.sc]; rfl, W.blt, W.glb, W.fld, W.fns, W.cls, W.mth⟩
theorem Wd.asn (W : Wd G P ca N X sc) (s : Shared) (H : Hp) (scope : Scope) (cl : List (Str × Addr)) (C : Addr) (fp : List Addr) : Asn (X.blk s H scope (compEnvC scope cl C X.env) fp) (relS scope sc) (isLoc scope) := by
  intro x h _
  unfold isLoc at h
  split at h
  · rename_i e
    exact .inr (lookup_relS_keep (by decide) e)
  · rename_i e
    refine .inl ?_
    show (scope.names.lookup x == some NameKind.cell) = true
    rw [e]; rfl
  · cases h
end
end Mp
set_option Elab.async false
set_option linter.all false
set_option maxRecDepth 100000
set_option maxHeartbeats 4000000
namespace Mp
open PySem PySem.Spec PyProof.Rows L2
section
variable {G : Gx} {P : En} {ca : Nat → Addr} {N : List Str} {n : Nat} {X : Cx} {sc : Scope} {pos p : Pos}
/-- f(..), C(..), a built-in function -/
theorem cE_nostar : ∀ {n : Nat} {sc : Scope} {e : Expr} {x : E}, cE G N n sc e = some x → nostar e = true
  | 0, _, _, _, h => by simp only [cE] at h; cases h
  | n + 1, _, e, _, h => by
    cases e with
    | Starred => simp only [cE] at h; cases h
    | _ => rfl
theorem snd_call (I : Snd G P ca N n) (W : Wd G P ca N X sc) {f : Str} {args : List Expr} {x : E} (h : cE G N (n + 1) sc (.Call (.Name f p) args [] pos) = some x) (ν : List Addr) : PE X (.Call (.Name f p) args [] pos) (Rx (cn X ca ν) (evE P x)) := by
  simp only [cE] at h
  split at h
  · rename_i hgl
    obtain ⟨gl, ok⟩ := W.gl hgl
    split at h
    · rename_i i hi
      obtain ⟨xs, h1, rfl⟩ := Option.map_eq_some_iff.mp h
      obtain ⟨i1, i2, i3⟩ := I.es W h1
      obtain ⟨k, fa, fd, ps, m, kk, F, r, b⟩ := W.fns _ _ hi
      cases args with
      | nil =>
        cases xs with
        | nil => exact de_call0 gl ok m kk F r b
        | cons _ _ => cases i2
      | cons a as => exact de_call gl ok m kk F r b i1 (i3 ν)
    · split at h
      · rename_i C hC
        obtain ⟨xs, h1, rfl⟩ := Option.map_eq_some_iff.mp h
        obtain ⟨i1, i2, i3⟩ := I.es W h1
        cases hini : P.ini C with
        | none =>
          refine ⟨fun pins s σ H Q I' q => ?_⟩
          obtain ⟨σd, S, μ, rs, rl, d, S', e, post⟩ := q
          simp only [evE] at e
          obtain ⟨ds, S1, e1, e2⟩ := bind_ok.mp e
          rw [hini] at e2
          cases e2
        | some i =>
          rcases W.cls _ _ _ hC hini with hbad | ⟨k, fa, fd, ps, m, Mk', F, r, b⟩
          · refine ⟨fun pins s σ H Q I' q => ?_⟩
            obtain ⟨σd, S, μ, rs, rl, d, S', e, post⟩ := q
            simp only [evE] at e
            obtain ⟨ds, S1, e1, e2⟩ := bind_ok.mp e
            simp only [hini] at e2
            obtain ⟨y, S2, e3, e4⟩ := bind_ok.mp e2
            obtain ⟨z, S3, e5, e6⟩ := bind_ok.mp e4
            rw [hbad] at e5
            cases e5
          have hev : evE P (.new C xs) = (fun σ => do
              let ds ← evEs P xs σ
              let x ← alloc (.ins C [])
              match ← P.callI i (x :: ds) with
              | .non => pure x
              | _ => fail) := by
            funext σ
            simp only [evE, hini]
            all_goals rfl
          rw [hev]
          cases args with
          | nil =>
            cases xs with
            | nil => exact de_new0 gl ok m Mk' F r b
            | cons _ _ => cases i2
          | cons a as => exact de_new gl ok m Mk' F r b i1 (i3 ν)
      · split at h
        · rename_i hb
          have hm := W.blt f hb
          split at h
          · rename_i hf
            subst hf
            split at h
            · split at h
              · rename_i ts y h1 h2
                cases h
                obtain ⟨⟨ps, e1, e2⟩, i2⟩ := cTys_ok W h1
                match ts, ps, e1, e2 with
                | [t], [p'], e1, _ =>
                  have e1 : [Expr.Name _ _] = [Expr.Name (tyStr t) p'] := e1
                  injection e1 with e1 _
                  injection e1 with e1 _
                  subst e1
                  obtain ⟨g1, g2⟩ := i2 t (by simp)
                  exact de_isi1 gl hm g1 g2 (cE_nostar h2) (I.e W h2 ν).1
                | [], [], e1, _ => cases e1
                | _ :: _ :: _, _ :: _ :: _, e1, _ => cases e1
              · cases h
            · split at h
              · rename_i ts y h1 h2
                split at h
                · rename_i hts
                  cases h
                  rw [Bool.and_eq_true] at hts
                  obtain ⟨⟨ps, e1, e2⟩, i2⟩ := cTys_ok W h1
                  subst e1
                  exact de_isiT gl hm e2 (of_decide_eq_true hts.2) (fun z => (by rw [z] at hts; simp at hts)) i2 (cE_nostar h2) (I.e W h2 ν).1
                · cases h
              · cases h
            · cases h
          · split at h
            · rename_i hf
              subst hf
              split at h
              · obtain ⟨y, h1, rfl⟩ := Option.map_eq_some_iff.mp h
                exact de_dictOf W.calm gl hm (cE_nostar h1) (I.e W h1 ν).1
              · cases h
            · split at h
              · rename_i b hbi
                obtain ⟨xs, h1, rfl⟩ := Option.map_eq_some_iff.mp h
                obtain ⟨i1, i2, i3⟩ := I.es W h1
                have := biOf_nm hbi
                subst this
                cases args with
                | nil => exact absurd rfl (biOf_ne hbi)
                | cons a as => exact de_bi W.calm b gl hm i1 (i3 ν)
              · split at h
                · rename_i b hbf
                  obtain ⟨xs, h1, rfl⟩ := Option.map_eq_some_iff.mp h
                  obtain ⟨i1, i2, i3⟩ := I.es W h1
                  obtain ⟨this, hne⟩ := bfOf_nm hbf
                  subst this
                  cases args with
                  | nil => exact absurd rfl hne
                  | cons a as => exact de_bf W.calm b gl hm i1 (i3 ν)
                · cases h
        · cases h
  · cases h
end
end Mp
set_option Elab.async false
set_option linter.all false
set_option maxRecDepth 100000
set_option maxHeartbeats 4000000
namespace Mp
open PySem PySem.Spec PyProof.Rows L2
section
variable {G : Gx} {P : En} {ca : Nat → Addr} {N : List Str} {n : Nat} {X : Cx} {sc : Scope} {pos p apos : Pos}
theorem len_nil {args : List Expr} {xs : Es} {P : En} (h : xs.len = args.length) : args = [] → evEs P xs = fun _ => pure [] := fun e => by
  subst e
  cases xs with
  | nil => rfl
  | cons _ _ => cases h
/-- o.m(..) -/
theorem snd_mcall (I : Snd G P ca N n) (W : Wd G P ca N X sc) {a : Expr} {m : Str} {args : List Expr} {x : E} (h : cE G N (n + 1) sc (.Call (.Attribute a m apos) args [] pos) = some x) (ν : List Addr) : PE X (.Call (.Attribute a m apos) args [] pos) (Rx (cn X ca ν) (evE P x)) := by
  simp only [cE] at h
  split at h
  · rename_i hc
    simp only [Bool.and_eq_true, decide_eq_true_eq] at hc
    obtain ⟨⟨hp, hl⟩, hn⟩ := hc
    split at h
    · rename_i hm
      split at h
      · rename_i y xs h1 h2
        cases h
        obtain ⟨i1, i2, i3⟩ := I.es W h2
        exact de_meth (W.mth m hm) hp hl hn i1 (I.e W h1 ν).1 (i3 ν) (len_nil i2)
      · cases h
    · split at h
      · rename_i b y xs hb h1 h2
        cases h
        obtain ⟨i1, i2, i3⟩ := I.es W h2
        have := bmOf_nm hb
        subst this
        exact de_bm W.room b hp hl hn i1 (I.e W h1 ν).1 (i3 ν) (len_nil i2)
      · cases h
  · cases h
/-- what is walked -/
theorem snd_it (I : Snd G P ca N n) (W : Wd G P ca N X sc) {tup : Bool} {e tg : Expr} {x : It} (h : cIt G N (n + 1) sc tup e = some x) (ht : tup = true → ∃ elts kk tpos, tg = .Tuple elts kk tpos) (ν : List Addr) : PI X tg e (RxI (cn X ca ν) (evIt P x)) := by
  unfold cIt at h
  split at h
  · cases h
  · rename_i f p args pos
    split at h
    · rename_i hc
      obtain ⟨rfl, hg, hl⟩ := hc
      obtain ⟨xs, h1, rfl⟩ := Option.map_eq_some_iff.mp h
      obtain ⟨i1, i2, i3⟩ := I.es W h1
      obtain ⟨g1, _, g3⟩ := W.glB hg
      exact di_rng hl (fun σ S ds S' e => by rw [← i2]; exact evEs_len e) i1 g1 g3 (i3 ν)
    · split at h
      · rename_i hc
        obtain ⟨rfl, hg, hl, htu⟩ := hc
        obtain ⟨g1, _, g3⟩ := W.glB hg
        obtain ⟨elts, kk, tpos, rfl⟩ := ht htu
        split at h
        · rename_i y h1
          cases h
          have q := I.each W h1
          match args, q with
          | [a], q => exact di_enum q.1.1 g1 g3 (q.1.2 ν)
          | [], q => exact q.elim
          | _ :: _ :: _, q => exact q.2.elim
        · cases h
      · split at h
        · rename_i hc
          obtain ⟨rfl, hg, hl, htu⟩ := hc
          obtain ⟨g1, _, g3⟩ := W.glB hg
          obtain ⟨elts, kk, tpos, rfl⟩ := ht htu
          split at h
          · rename_i y z h1
            cases h
            have q := I.each W h1
            match args, q with
            | [a, b], q => exact di_zip q.1.1 q.2.1.1 g1 g3 (q.1.2 ν) (q.2.1.2 ν)
            | [], q => exact q.elim
            | [_], q => exact q.2.elim
            | _ :: _ :: _ :: _, q => exact q.2.2.elim
          · cases h
        · obtain ⟨y, h1, rfl⟩ := Option.map_eq_some_iff.mp h
          exact di_seq (I.e W h1 ν).1
  · obtain ⟨y, h1, rfl⟩ := Option.map_eq_some_iff.mp h
    exact di_seq (I.e W h1 ν).1
theorem cIt_nofold {tup : Bool} {e : Expr} {x : It} (h : cIt G N n sc tup e = some x) (env : Env) (v : Value) : foldedSetIterable e env v = pure v := by
  cases n with
  | zero => simp only [cIt] at h; cases h
  | succ n =>
    cases e with
    | Set => simp only [cIt] at h; cases h
    | _ => rfl
theorem tup_of {tg : Expr} : (match tg with | .Tuple .. => true | _ => false) = true → ∃ elts kk tpos, tg = .Tuple elts kk tpos := by
  cases tg with
  | Tuple a b c => exact fun _ => ⟨a, b, c, rfl⟩
  | _ => exact fun h => (by cases h)
theorem subL_ok {a b : List Nat} (h : subL a b = true) : ∀ i ∈ a, i ∈ b := fun i hi => by
  unfold subL at h
  have := List.all_eq_true.mp h i hi
  simpa using this
theorem cE_notSl : ∀ {n : Nat} {sc : Scope} {e : Expr} {x : E}, cE G N n sc e = some x → notSl e = true
  | 0, _, _, _, h => by simp only [cE] at h; cases h
  | n + 1, _, e, _, h => by
    cases e with
    | Slice => simp only [cE] at h; cases h
    | _ => rfl
/-- [e for t in it if c] -/
theorem snd_comp (I : Snd G P ca N n) (W : Wd G P ca N X sc) {elt tg it : Expr} {ifs : List Expr} {k : Int} {scope : Scope} {x : E} (h : cE G N (n + 1) sc (.ListComp elt [⟨tg, it, ifs, k⟩] scope pos) = some x) (ν : List Addr) :
    PE X (.ListComp elt [⟨tg, it, ifs, k⟩] scope pos) (Rx (cn X ca ν) (evE P x)) := by
  simp only [cE] at h
  split at h
  · rename_i hk
    obtain ⟨rfl, hb⟩ := hk
    split at h
    · rename_i i t c e h1 h2 h3 h4
      split at h
      · rename_i hs
        cases h
        have ok : BlkOk X.N X.env.scope scope (ownOf N scope) := by rw [W.nm, W.sc]; exact blkOk_by hb
        have nd : X.N.Nodup := by rw [W.nm]; exact W.nd
        have pe := pe_lc (elt := elt) (pos := pos) (wi := RxI (cn X ca ν) (evIt P i)) (g := RxGE X ca (slT t) (evT P t)) (tt := RxTE X ca (evC P c)) (te := RxE X ca (evE P e)) W.calm nd (I.it W h1 tup_of ν) ok (fun s H C cl fp => pg_ex fun ν' => I.t (W.blk s H scope cl C fp) (W.asn s H scope cl C fp) h2 ν') (fun s H C cl fp => pts_ex fun ν' => I.ifs (W.blk s H scope cl C fp) h3 ν')
          (fun s H C cl fp => pe_ex fun ν' => (I.e (W.blk s H scope cl C fp) h4 ν').1) (cIt_nofold h1 _)
        refine pe_imp pe fun σ H Q q => ?_
        cases hm : G.isMut pos with
        | true =>
          rw [hm] at q
          refine rx_lcM (subL_ok hs) (fuel := P.fuel) ?_
          obtain ⟨σd, S, μ, rs, rl, d, S', e, post⟩ := q
          exact ⟨σd, S, μ, rs, rl, d, S', e, post⟩
        | false =>
          rw [hm] at q
          refine rx_lcV (subL_ok hs) (fuel := P.fuel) ?_
          obtain ⟨σd, S, μ, rs, rl, d, S', e, post⟩ := q
          exact ⟨σd, S, μ, rs, rl, d, S', e, post⟩
      · cases h
    · cases h
  · cases h
theorem snd_comp2 (I : Snd G P ca N n) (W : Wd G P ca N X sc) {elt tg it tg1 it1 : Expr} {ifs ifs1 : List Expr} {k k1 : Int} {scope : Scope} {x : E} (h : cE G N (n + 1) sc (.ListComp elt [⟨tg, it, ifs, k⟩, ⟨tg1, it1, ifs1, k1⟩] scope pos) = some x) (ν : List Addr) :
    PE X (.ListComp elt [⟨tg, it, ifs, k⟩, ⟨tg1, it1, ifs1, k1⟩] scope pos) (Rx (cn X ca ν) (evE P x)) := by
  simp only [cE] at h
  split at h
  · rename_i hk
    obtain ⟨rfl, rfl, hb, hm⟩ := hk
    split at h
    · rename_i i t c i1 t1 c1 e h1 h2 h3 h4 h5 h6 h7
      split at h
      · rename_i hs
        rw [Bool.and_eq_true] at hs
        cases h
        have ok : BlkOk X.N X.env.scope scope (ownOf N scope) := by rw [W.nm, W.sc]; exact blkOk_by hb
        have nd : X.N.Nodup := by rw [W.nm]; exact W.nd
        have pe := pe_lc2 (elt := elt) (pos := pos) (wi := RxI (cn X ca ν) (evIt P i)) (g := RxGE X ca (slT t) (evT P t)) (tt := RxTE X ca (evC P c)) (wi1 := RxIE X ca (evIt P i1)) (g1 := RxGE X ca (slT t1) (evT P t1)) (tt1 := RxTE X ca (evC P c1)) (te := RxE X ca (evE P e)) W.calm nd (I.it W h1 tup_of ν) ok (subL_ok hs.2) (fun s H C cl fp => pg_ex fun ν' => I.t (W.blk s H scope cl C fp) (W.asn s H scope cl C fp) h2 ν') (fun s H C cl fp => pts_ex fun ν' => I.ifs (W.blk s H scope cl C fp) h3 ν')
          (fun s H C cl fp => pi_ex fun ν' => I.it (W.blk s H scope cl C fp) h4 tup_of ν') (fun s H C cl fp => pg_ex fun ν' => I.t (W.blk s H scope cl C fp) (W.asn s H scope cl C fp) h5 ν') (fun s H C cl fp => pts_ex fun ν' => I.ifs (W.blk s H scope cl C fp) h6 ν')
          (fun s H C cl fp => pe_ex fun ν' => (I.e (W.blk s H scope cl C fp) h7 ν').1) (cIt_nofold h1 _) (cIt_nofold h4)
        refine pe_imp pe fun σ H Q q => ?_
        exact rx_lc2 (subL_ok hs.1) (fuel := P.fuel) q
      · cases h
    · cases h
  · cases h
/-- expressions -/
theorem snd_e (I : Snd G P ca N n) (W : Wd G P ca N X sc) {e : Expr} {x : E} (h : cE G N (n + 1) sc e = some x) : Both X ca P e x := by
  have h0 := h
  unfold cE at h
  split at h
  · exact .of (snd_name W h) fun _ => rfl
  · obtain ⟨d, h1, rfl⟩ := Option.map_eq_some_iff.mp h
    exact .of (snd_cst h1) fun _ => rfl
  · split at h
    · rename_i o x y h1 h2 h3
      have := op2_of h1
      subst this
      split at h
      · split at h
        · cases h
          exact .of (fun ν => de_catM (I.e W h2 ν).1 (I.e W h3 ν).1) fun _ => rfl
        · cases h
      · cases h
        exact .of (fun ν => de_bin o (I.e W h2 ν).1 (I.e W h3 ν).1) fun _ => rfl
    · cases h
  · obtain ⟨y, h1, rfl⟩ := Option.map_eq_some_iff.mp h
    exact .of (fun ν => de_neg (I.e W h1 ν).1) fun _ => rfl
  · obtain ⟨y, h1, rfl⟩ := Option.map_eq_some_iff.mp h
    exact fun ν => ⟨de_not (I.e W h1 ν).1, dt_not (I.e W h1 ν).2⟩
  · split at h
    · cases h
    · rename_i hm
      split at h
      · rename_i o x y h1 h2 h3
        cases h
        have := cop2_of h1
        subst this
        have hm := Bool.eq_false_iff.mpr hm
        exact fun ν => ⟨de_cmp W.room o (I.e W h2 ν).1 (I.e W h3 ν).1 hm, dt_cmp W.room o (I.e W h2 ν).1 (I.e W h3 ν).1 hm⟩
      · cases h
  · split at h
    · cases h
    · rename_i hm
      split at h
      · rename_i o o' x y z h1 h2 h3 h4 h5
        cases h
        have := cop2_of h1
        subst this
        have := cop2_of h2
        subst this
        have hm := Bool.eq_false_iff.mpr hm
        exact fun ν => ⟨de_chn W.room o o' (I.e W h3 ν).1 (I.e W h4 ν).1 (I.e W h5 ν).1 hm, dt_chn W.room o o' (I.e W h3 ν).1 (I.e W h4 ν).1 (I.e W h5 ν).1 hm⟩
      · cases h
  · obtain ⟨_, h2⟩ := I.and W h
    exact fun ν => ⟨(h2 ν _).1, (h2 ν _).2.pt⟩
  · obtain ⟨_, h2⟩ := I.or W h
    exact fun ν => ⟨(h2 ν _).1, (h2 ν _).2.pt⟩
  · split at h
    · rename_i x y z h1 h2 h3
      cases h
      exact fun ν => ⟨de_ite (I.e W h1 ν).2 (I.e W h2 ν).1 (I.e W h3 ν).1, pt_ite (I.e W h1 ν).2 (I.e W h2 ν).2 (I.e W h3 ν).2⟩
    · cases h
  · obtain ⟨y, h1, rfl⟩ := Option.map_eq_some_iff.mp h
    exact .of (fun ν => de_tup ((I.es W h1).2.2 ν)) fun _ => rfl
  · obtain ⟨y, h1, rfl⟩ := Option.map_eq_some_iff.mp h
    exact .of (fun ν => de_lst ((I.es W h1).2.2 ν)) fun _ => rfl
  · cases h
    split
    · exact .of (fun ν => de_dnT) fun _ => rfl
    · exact .of (fun ν => de_dnK) fun _ => rfl
  · split at h
    · rename_i ks vs _ hne hl
      split at h
      · rename_i ks' es h1 h2
        cases h
        obtain ⟨k1, k2⟩ := keyC_some h1
        obtain ⟨i1, i2, i3⟩ := I.es W h2
        have hne' : ks ≠ [] := fun z => by
          subst z
          cases vs with
          | nil => exact hne rfl rfl
          | cons _ _ => cases hl.1
        refine .of (fun ν => ?_) fun _ => rfl
        refine pe_imp (de_disp (ν := ν) (I.dp W h2 h1 hl.1) k1 hl.1 hne' hl.2 k2 (by rw [evDisp_len, i2])) fun σ H Q q => ?_
        obtain ⟨σd, S, μ, rs, rl, d, S', e, post⟩ := q
        refine ⟨σd, S, μ, rs, rl, d, S', ?_, post⟩
        simp only [evE] at e
        rw [evDisp_seq] at e
        exact e
      · cases h
    · cases h
  · split at h
    · rename_i x l hh h1 h2 h3
      cases h
      exact .of (fun ν => de_sl (I.e W h1 ν).1 (I.eo W h2 ν) (I.eo W h3 ν)) fun _ => rfl
    · cases h
  · split at h
    · rename_i x y h1 h2
      cases h
      exact .of (fun ν => de_ix W.room (I.e W h1 ν).1 (I.e W h2 ν).1 (cE_notSl h2)) fun _ => rfl
    · cases h
  · split at h
    · rename_i hp
      rw [Bool.and_eq_true] at hp
      obtain ⟨y, h1, rfl⟩ := Option.map_eq_some_iff.mp h
      exact .of (fun ν => de_fld (W.fld _ hp.2) hp.1 (I.e W h1 ν).1) fun _ => rfl
    · cases h
  · exact .of (snd_call I W h0) fun _ => rfl
  · exact .of (snd_mcall I W h0) fun _ => rfl
  · exact .of (snd_comp I W h0) fun _ => rfl
  · exact .of (snd_comp2 I W h0) fun _ => rfl
  · cases h
end
end Mp
set_option Elab.async false
set_option linter.all false
set_option maxRecDepth 100000
set_option maxHeartbeats 4000000
namespace Mp
open PySem PySem.Spec PyProof.Rows L2
theorem snd (G : Gx) (P : En) (ca : Nat → Addr) (N : List Str) : ∀ n, Snd G P ca N n
  | 0 => ⟨fun _ h => (by simp only [cE] at h; cases h), fun _ h => (by simp only [cEs] at h; cases h), fun _ h => (by simp only [cEs] at h; cases h), fun _ h => (by simp only [cEs] at h; cases h), fun _ h => (by simp only [cAnd] at h; cases h), fun _ h => (by simp only [cOr] at h; cases h),
    fun _ h => (by simp only [cEo] at h; cases h), fun _ h => (by simp only [cIfs] at h; cases h), fun _ h => (by simp only [cIt] at h; cases h), fun _ _ h => (by simp only [cT] at h; cases h), fun _ _ h => (by simp only [cTs] at h; cases h)⟩
  | n + 1 =>
    let I := snd G P ca N n
    ⟨fun W h => snd_e I W h, fun W h => snd_es I W h, fun W h => snd_dp I W h, fun W h => snd_each I W h, fun W h => snd_and I W h, fun W h => snd_or I W h, fun W h => snd_eo I W h, fun W h => snd_ifs I W h, fun W h ht => snd_it I W h ht, fun W A h => snd_t I W A h, fun W A h => snd_ts I W A h⟩

section
variable {G : Gx} {P : En} {ca : Nat → Addr} {N : List Str} {n : Nat} {X : Cx} {sc : Scope} {pos p : Pos}
theorem swaps_none {v : Expr} {t : Option Expr} {l : Nat} {env : Env} (h : isComp v = false) : swapsWith v t l env = pure false := by
  unfold swapsWith
  cases v <;> first | rfl | simp [isComp] at h
theorem filt_len {q : Expr → Option Str} {b : Expr → Bool} (hq : ∀ e, b e = true → q e = none) {ts : List Expr} : ts.any b = true → (ts.filterMap q).length < ts.length := by
  intro h
  induction ts with
  | nil => cases h
  | cons t r ih =>
    have hle : (r.filterMap q).length ≤ r.length := List.length_filterMap_le ..
    rw [List.any_cons, Bool.or_eq_true] at h
    rcases h with h | h
    · rw [List.filterMap_cons, hq t h]
      exact Nat.lt_succ_of_le hle
    · have := ih h
      rw [List.filterMap_cons]
      split
      · rw [List.length_cons]; omega
      · rw [List.length_cons, List.length_cons]; omega
theorem swapped_none {ts vs : List Expr} {k k2 : Nat} {p p2 : Pos} {env : Env} (h : swNone env.scope ts = true) : swappedStores [.Tuple ts k p] (.Tuple vs k2 p2) env = pure none := by
  unfold swNone at h
  rw [Bool.or_eq_true] at h
  unfold swappedStores
  simp only [pure_bind]
  rcases h with h | h
  · rw [if_pos (by rw [h]; simp)]
  · split
    · rfl
    · split
      · rfl
      · rw [if_pos]
        rw [Bool.or_eq_true]
        refine .inl ?_
        rw [bne_iff_ne]
        refine Nat.ne_of_lt (filt_len (b := fun
          | .Name x p => !(env.scope.names.lookup x == some .local && p.line == (ts.head?.map (·.pos.line)).getD 0)
          | _ => true) (fun e he => ?_) h)
        cases e with
        | Name x p =>
          have he : (!(env.scope.names.lookup x == some .local && p.line == (ts.head?.map (·.pos.line)).getD 0)) = true := he
          have he' : (env.kindOf x == some .local && p.line == (ts.head?.map (·.pos.line)).getD 0) = false := by
            rw [Bool.not_eq_true'] at he
            exact he
          show (if (env.kindOf x == some .local && p.line == (ts.head?.map (·.pos.line)).getD 0) = true then some x else none) = none
          rw [he']
          rfl
        | _ => rfl
theorem swapped_two {x y : Str} {px py p p2 : Pos} {a b : Expr} {k k2 : Nat} {env : Env} (hk : env.scope.kind = .function) (hx : env.scope.names.lookup x = some .local) (hy : env.scope.names.lookup y = some .local) (hl : px.line = py.line) (hne : x ≠ y)
    (h1 : nostar a = true) (h2 : nostar b = true) (hf : [a, b].all (foldedForSure 8) = false) (hc : [a, b].all (constantsAlone 8) = false) :
    swappedStores [.Tuple [.Name x px, .Name y py] k p] (.Tuple [a, b] k2 p2) env = pure (some [x, y]) := by
  have hb : env.blockKind = .function := by unfold Env.blockKind; rw [hk]; rfl
  have kx : env.kindOf x = some .local := hx
  have ky : env.kindOf y = some .local := hy
  unfold swappedStores
  simp only [pure_bind]
  rw [if_neg (by rw [hb]; simp)]
  rw [if_neg (by
    simp only [List.any_cons, List.any_nil, Bool.or_false, Bool.or_eq_true, not_or, Bool.not_eq_true]
    refine ⟨?_, ?_⟩
    · cases a <;> first | rfl | simp [nostar] at h1
    · cases b <;> first | rfl | simp [nostar] at h2)]
  generalize hg : List.filterMap _ [Expr.Name x px, Expr.Name y py] = names
  have hnm : names = [x, y] := by
    rw [← hg]
    simp [kx, ky, Expr.pos, hl]
  rw [hnm]
  rw [if_neg (by simp [List.eraseDups_cons, Ne.symm hne])]
  rw [if_neg (by rw [hf]; decide), if_neg (by rw [hc]; decide)]
theorem swapped_three {x y z : Str} {px py pz p p2 : Pos} {a b c : Expr} {k k2 : Nat} {env : Env} (hk : env.scope.kind = .function) (hx : env.scope.names.lookup x = some .local) (hy : env.scope.names.lookup y = some .local) (hz : env.scope.names.lookup z = some .local)
    (hl : px.line = py.line) (hl2 : px.line = pz.line) (hne : x ≠ y) (hne2 : x ≠ z) (hne3 : y ≠ z)
    (h1 : nostar a = true) (h2 : nostar b = true) (h3 : nostar c = true) (hf : [a, b, c].all (foldedForSure 8) = false) (hc : [a, b, c].all (constantsAlone 8) = false) :
    swappedStores [.Tuple [.Name x px, .Name y py, .Name z pz] k p] (.Tuple [a, b, c] k2 p2) env = pure (some [x, y, z]) := by
  have hb : env.blockKind = .function := by unfold Env.blockKind; rw [hk]; rfl
  have kx : env.kindOf x = some .local := hx
  have ky : env.kindOf y = some .local := hy
  have kz : env.kindOf z = some .local := hz
  unfold swappedStores
  simp only [pure_bind]
  rw [if_neg (by rw [hb]; simp)]
  rw [if_neg (by
    simp only [List.any_cons, List.any_nil, Bool.or_false, Bool.or_eq_true, not_or, Bool.not_eq_true]
    refine ⟨?_, ?_, ?_⟩
    · cases a <;> first | rfl | simp [nostar] at h1
    · cases b <;> first | rfl | simp [nostar] at h2
    · cases c <;> first | rfl | simp [nostar] at h3)]
  generalize hg : List.filterMap _ [Expr.Name x px, Expr.Name y py, Expr.Name z pz] = names
  have hnm : names = [x, y, z] := by
    rw [← hg]
    simp [kx, ky, kz, Expr.pos, ← hl, ← hl2]
  rw [hnm]
  rw [if_neg (by simp [List.eraseDups_cons, Ne.symm hne, Ne.symm hne2, Ne.symm hne3])]
  rw [if_neg (by rw [hf]; decide), if_neg (by rw [hc]; decide)]
end
end Mp
set_option Elab.async false
set_option linter.all false
set_option maxRecDepth 100000
set_option maxHeartbeats 4000000
namespace Mp
open PySem PySem.Spec PyProof.Rows L2
section
variable {G : Gx} {P : En} {ca : Nat → Addr} {N : List Str} {n : Nat} {X : Cx} {sc : Scope} {pos p : Pos}
/-- at a def's own level -/
structure Wt (G : Gx) (P : En) (ca : Nat → Addr) (N : List Str) (X : Cx) (sc : Scope) : Prop where
  wd : Wd G P ca N X sc
  pas : PassesOwn (model X.prog X.w) X.A X.env X.xe
  kind : sc.kind = .function
  asn : Asn X sc (isLoc sc)
theorem rxs_nm' {i : Nat} {x : E} {D : Ends} {σ : L2.St} {H : Hp} {ν : List Addr} (q : RxS (cn X ca ν) (evS P (.asg (.nm i) x)) D σ H) : Rx (cn X ca ν) (evE P x) σ H fun x H1 => gName i x σ H1 D.nx :=
  rxs_nm (ma := evE P x) q
/-- name = [..] -/
theorem snd_setc (W : Wt G P ca N X sc) {y : Str} {py : Pos} {i : Nat} {elt tg it : Expr} {ifs : List Expr} {k : Int} {scope : Scope} {x : E} (hi : ixOf N y = some i) (hy : sc.names.lookup y = some .local) (hl : py.line = pos.line)
    (ha : (scope.names.any fun (n, k) => n == y && (k == .local || k == .cell)) = false) {spos : Pos} (h : cE G N (n + 1) sc (.ListComp elt [⟨tg, it, ifs, k⟩] scope pos) = some x) (ν : List Addr) :
    PS X (.Assign [.Name y py] (.ListComp elt [⟨tg, it, ifs, k⟩] scope pos) spos) (RxS (cn X ca ν) (evS P (.asg (.nm i) x))) := by
  have I := snd G P ca N n
  have Wd' := W.wd
  simp only [cE] at h
  split at h
  · rename_i hk
    obtain ⟨rfl, hb⟩ := hk
    split at h
    · rename_i i0 t c e h1 h2 h3 h4
      split at h
      · rename_i hs
        cases h
        have ok : BlkOk X.N X.env.scope scope (ownOf N scope) := by rw [Wd'.nm, Wd'.sc]; exact blkOk_by hb
        have nd : X.N.Nodup := by rw [Wd'.nm]; exact Wd'.nd
        have hsw := sw_true (elt := elt) (gs := [⟨tg, it, ifs, 0⟩]) (pos := pos) (py := py) (l := spos.line) (env := X.env) (by rw [Wd'.sc]; exact W.kind) (by rw [Wd'.sc]; exact hy) (by rw [hl]; exact beq_self_eq_true _) ha
        have pe := ps_setLc (i := i) (y := y) (py := py) (spos := spos) (elt := elt) (pos := pos) (wi := RxI (cn X ca ν) (evIt P i0)) (g := RxGE X ca (slT t) (evT P t)) (tt := RxTE X ca (evC P c)) (te := RxE X ca (evE P e)) Wd'.calm nd (by rw [Wd'.nm]; exact ixOf_get hi) (by rw [Wd'.sc]; exact hy) hsw (I.it Wd' h1 tup_of ν) ok (fun s H C cl fp => pg_ex fun ν' => I.t (Wd'.blk s H scope cl C fp) (Wd'.asn s H scope cl C fp) h2 ν') (fun s H C cl fp => pts_ex fun ν' => I.ifs (Wd'.blk s H scope cl C fp) h3 ν')
          (fun s H C cl fp => pe_ex fun ν' => (I.e (Wd'.blk s H scope cl C fp) h4 ν').1) (cIt_nofold h1 _)
        refine ps_imp pe fun D σ H q => ?_
        have q1 := rxs_nm' q
        cases hm : G.isMut pos with
        | true =>
          rw [hm] at q1
          refine rx_lcM (subL_ok hs) (fuel := P.fuel) ?_
          obtain ⟨σd, S, μ, rs, rl, d, S', e, post⟩ := q1
          exact ⟨σd, S, μ, rs, rl, d, S', e, post⟩
        | false =>
          rw [hm] at q1
          refine rx_lcV (subL_ok hs) (fuel := P.fuel) ?_
          obtain ⟨σd, S, μ, rs, rl, d, S', e, post⟩ := q1
          exact ⟨σd, S, μ, rs, rl, d, S', e, post⟩
      · cases h
    · cases h
  · cases h
theorem snd_setc2 (W : Wt G P ca N X sc) {y : Str} {py : Pos} {i : Nat} {elt tg it tg1 it1 : Expr} {ifs ifs1 : List Expr} {k k1 : Int} {scope : Scope} {x : E} (hi : ixOf N y = some i) (hy : sc.names.lookup y = some .local) (hl : py.line = pos.line)
    (ha : (scope.names.any fun (n, k) => n == y && (k == .local || k == .cell)) = false) {spos : Pos} (h : cE G N (n + 1) sc (.ListComp elt [⟨tg, it, ifs, k⟩, ⟨tg1, it1, ifs1, k1⟩] scope pos) = some x) (ν : List Addr) :
    PS X (.Assign [.Name y py] (.ListComp elt [⟨tg, it, ifs, k⟩, ⟨tg1, it1, ifs1, k1⟩] scope pos) spos) (RxS (cn X ca ν) (evS P (.asg (.nm i) x))) := by
  have I := snd G P ca N n
  have Wd' := W.wd
  simp only [cE] at h
  split at h
  · rename_i hk
    obtain ⟨rfl, rfl, hb, hm⟩ := hk
    split at h
    · rename_i i0 t c i1 t1 c1 e h1 h2 h3 h4 h5 h6 h7
      split at h
      · rename_i hs
        rw [Bool.and_eq_true] at hs
        cases h
        have ok : BlkOk X.N X.env.scope scope (ownOf N scope) := by rw [Wd'.nm, Wd'.sc]; exact blkOk_by hb
        have nd : X.N.Nodup := by rw [Wd'.nm]; exact Wd'.nd
        have hsw := sw_true (elt := elt) (gs := [⟨tg, it, ifs, 0⟩, ⟨tg1, it1, ifs1, 0⟩]) (pos := pos) (py := py) (l := spos.line) (env := X.env) (by rw [Wd'.sc]; exact W.kind) (by rw [Wd'.sc]; exact hy) (by rw [hl]; exact beq_self_eq_true _) ha
        have pe := ps_setLc2 (i := i) (y := y) (py := py) (spos := spos) (elt := elt) (pos := pos) (wi := RxI (cn X ca ν) (evIt P i0)) (g := RxGE X ca (slT t) (evT P t)) (tt := RxTE X ca (evC P c)) (wi1 := RxIE X ca (evIt P i1)) (g1 := RxGE X ca (slT t1) (evT P t1)) (tt1 := RxTE X ca (evC P c1)) (te := RxE X ca (evE P e)) Wd'.calm nd (by rw [Wd'.nm]; exact ixOf_get hi) (by rw [Wd'.sc]; exact hy) hsw (I.it Wd' h1 tup_of ν) ok (subL_ok hs.2) (fun s H C cl fp => pg_ex fun ν' => I.t (Wd'.blk s H scope cl C fp) (Wd'.asn s H scope cl C fp) h2 ν') (fun s H C cl fp => pts_ex fun ν' => I.ifs (Wd'.blk s H scope cl C fp) h3 ν')
          (fun s H C cl fp => pi_ex fun ν' => I.it (Wd'.blk s H scope cl C fp) h4 tup_of ν') (fun s H C cl fp => pg_ex fun ν' => I.t (Wd'.blk s H scope cl C fp) (Wd'.asn s H scope cl C fp) h5 ν') (fun s H C cl fp => pts_ex fun ν' => I.ifs (Wd'.blk s H scope cl C fp) h6 ν')
          (fun s H C cl fp => pe_ex fun ν' => (I.e (Wd'.blk s H scope cl C fp) h7 ν').1) (cIt_nofold h1 _) (cIt_nofold h4)
        refine ps_imp pe fun D σ H q => ?_
        have q1 := rxs_nm' q
        exact rx_lc2 (subL_ok hs.1) (fuel := P.fuel) q1
      · cases h
    · cases h
  · cases h
theorem ct_nm {ok : Str → Bool} {y : Str} {t : T} (h : cT G N n ok sc (.Name y p) = some t) : ∃ i, t = .nm i ∧ ixOf N y = some i := by
  cases n with
  | zero => simp only [cT] at h; cases h
  | succ n =>
    simp only [cT] at h
    split at h
    · obtain ⟨i, h1, rfl⟩ := Option.map_eq_some_iff.mp h
      exact ⟨i, rfl, h1⟩
    · cases h
theorem snd_asgC (W : Wt G P ca N X sc) {y : Str} {py : Pos} {v : Expr} {t : T} {x : E} {spos : Pos} (ht : cT G N n (isLoc sc) sc (.Name y py) = some t) (hx : cE G N n sc v = some x) (hc : isComp v = true) (hy : sc.names.lookup y = some .local) (hl : py.line = v.pos.line)
    (ha : nmC y v = false) (ν : List Addr) :
    PS X (.Assign [.Name y py] v spos) (RxS (cn X ca ν) (evS P (.asg t x))) := by
  obtain ⟨i, rfl, hi⟩ := ct_nm ht
  cases n with
  | zero => simp only [cE] at hx; cases hx
  | succ n =>
    cases v with
    | ListComp elt gens scope pos =>
      match gens, hx with
      | [⟨tg, it, ifs, k⟩], hx => exact snd_setc W hi hy hl ha hx ν
      | [⟨tg, it, ifs, k⟩, ⟨tg1, it1, ifs1, k1⟩], hx => exact snd_setc2 W hi hy hl ha hx ν
      | [], hx => simp only [cE] at hx; cases hx
      | _ :: _ :: _ :: _, hx => simp only [cE] at hx; cases hx
    | SetComp => simp only [cE] at hx; cases hx
    | DictComp => simp only [cE] at hx; cases hx
    | _ => cases hc
theorem swaps_cell {v : Expr} {y : Str} {l : Nat} {env : Env} (h : env.scope.names.lookup y ≠ some .local) : swapsWith v (some (.Name y p)) l env = pure false := by
  have hk : (env.kindOf y == some NameKind.local) = false := beq_eq_false_iff_ne.mpr h
  unfold swapsWith
  split
  · show (pure (env.blockKind == .function && env.kindOf y == some .local && _ && _) : Sem Bool) = pure false
    rw [hk]
    simp
  · rfl
theorem swaps_other {v tg : Expr} {l : Nat} {env : Env} (h : match tg with | .Name .. => False | _ => True) : swapsWith v (some tg) l env = pure false := by
  unfold swapsWith
  split
  · cases tg <;> first | rfl | exact h.elim
  · rfl
theorem swapped_other {tg v : Expr} {env : Env} (h : (match v with | .Tuple .. => False | _ => True) ∨ (match tg with | .Tuple .. => False | .List .. => False | _ => True)) : swappedStores [tg] v env = pure none := by
  unfold swappedStores
  cases tg <;> first | rfl | (cases v <;> first | rfl | (rcases h with h | h <;> exact h.elim))
theorem swaps_other' {v tg : Expr} {l : Nat} {env : Env} (h : ∀ id p, tg = .Name id p → False) : swapsWith v (some tg) l env = pure false := swaps_other (by
  split
  · exact h _ _ rfl
  · trivial)
theorem swapped_otherT {tg v : Expr} {env : Env} (h : ∀ a b c, tg = .Tuple a b c → False) (h2 : ∀ a b, tg = .List a b → False) : swappedStores [tg] v env = pure none := swapped_other (.inr (by
  split
  · exact h _ _ _ rfl
  · exact h2 _ _ rfl
  · trivial))
theorem swapped_otherV {tg v : Expr} {env : Env} (h : ∀ a b c, v = .Tuple a b c → False) : swappedStores [tg] v env = pure none := swapped_other (.inl (by
  split
  · exact h _ _ _ rfl
  · trivial))
theorem cT_nostar {ok : Str → Bool} {e : Expr} {t : T} (h : cT G N n ok sc e = some t) : nostar e = true := by
  cases n with
  | zero => simp only [cT] at h; cases h
  | succ n =>
    cases e with
    | Starred => simp only [cT] at h; cases h
    | _ => rfl
/-- statements -/
theorem snd_s : ∀ n, (∀ {X : Cx} {sc : Scope} {st : Stmt} {m : Sm}, Wt G P ca N X sc → cS G N n sc st = some m → ∀ ν, PS X st (RxS (cn X ca ν) (evS P m))) ∧
    ∀ {X : Cx} {sc : Scope} {st : List Stmt} {m : Ss}, Wt G P ca N X sc → cB G N n sc st = some m → ∀ ν, PSs X st (RxS (cn X ca ν) (evB P m))
  | 0 => ⟨fun _ h => (by simp only [cS] at h; cases h), fun _ h => (by simp only [cB] at h; cases h)⟩
  | n + 1 => by
    obtain ⟨is, ib⟩ := snd_s n
    have I := snd G P ca N n
    refine ⟨fun {X sc st m} W h ν => ?_, fun {X sc st m} W h ν => ?_⟩
    · have nd : X.N.Nodup := by rw [W.wd.nm]; exact W.wd.nd
      unfold cS at h
      split at h
      · -- name = v
        rename_i y py v pos
        split at h
        · rename_i t x h1 h2
          split at h
          · rename_i hc
            split at h
            · rename_i hy
              split at h
              · rename_i hl
                cases h
                exact snd_asgC W h1 h2 hc hy hl.1 hl.2 ν
              · cases h
            · rename_i hy
              cases h
              exact ds_asg (I.e W.wd h2 ν).1 (I.t W.wd W.asn h1 ν) rfl (swaps_cell (by rw [W.wd.sc, hy]; decide)) (swapped_other (.inr trivial))
            · cases h
          · rename_i hc
            cases h
            exact ds_asg (I.e W.wd h2 ν).1 (I.t W.wd W.asn h1 ν) rfl (swaps_none (Bool.eq_false_iff.mpr hc)) (swapped_other (.inr trivial))
        · cases h
      · -- x, y = a, b
        split at h
        · split at h
          · rename_i hc
            split at h
            · rename_i t x h1 h2
              cases h
              obtain ⟨i1, i2, i3⟩ := I.ts W.wd W.asn h1
              obtain ⟨j1, j2, j3⟩ := I.es W.wd h2
              have hg : ∀ {k : Nat} {pp : Pos}, PG X (.Tuple _ k pp) (RxG (cn X ca ν) (slTs t) (evT P (.tp t))) := fun {k pp} => by
                refine ⟨fun pins s σ H v u Q I' rv q => (dg_tup W.wd.calm i1 (fun ds σ S σ' S' e => by rw [← i2]; exact evTs_len e) (i3 ν)).run pins s σ H v u Q I' rv ?_⟩
                obtain ⟨σd, S, μ, d, r, rl, q, σd', S', e, post⟩ := q
                exact ⟨σd, S, μ, d, r, rl, q, σd', S', by cases d <;> exact e, post⟩
              exact ds_asg (de_tup (j3 ν)) hg rfl (swaps_none rfl) (swapped_none (by rw [W.wd.sc]; exact hc))
            · cases h
          · split at h
            · rename_i x px y py a b _ _
              split at h
              · rename_i hc
                obtain ⟨hx, hy, hl, hf, hcc⟩ := hc
                split at h
                · rename_i i j e h1 h2 h3
                  split at h
                  · rename_i hij
                    cases h
                    obtain ⟨i1, i2, i3⟩ := I.es W.wd h3
                    rw [List.all_cons, List.all_cons, Bool.and_eq_true, Bool.and_eq_true] at i1
                    have hne : x ≠ y := fun z => hij (by subst z; rw [h1] at h2; exact Option.some.inj h2)
                    exact ds_par W.wd.calm nd (by rw [W.wd.nm]; exact ixOf_get h1) (by rw [W.wd.nm]; exact ixOf_get h2) hij (by rw [W.wd.sc]; exact hx) (by rw [W.wd.sc]; exact hy) (i3 ν)
                      (swapped_two (by rw [W.wd.sc]; exact W.kind) (by rw [W.wd.sc]; exact hx) (by rw [W.wd.sc]; exact hy) hl hne i1.1 i1.2.1 hf hcc)
                  · cases h
                · cases h
              · cases h
            · rename_i x px y py z pz a b c _ _
              split at h
              · rename_i hc
                obtain ⟨hx, hy, hz, hl, hl2, hf, hcc⟩ := hc
                split at h
                · rename_i i j l e h1 h2 h2' h3
                  split at h
                  · rename_i hij
                    cases h
                    obtain ⟨i1, i2, i3⟩ := I.es W.wd h3
                    rw [List.all_cons, List.all_cons, List.all_cons, Bool.and_eq_true, Bool.and_eq_true, Bool.and_eq_true] at i1
                    have hne : x ≠ y := fun z => hij.1 (by subst z; rw [h1] at h2; exact Option.some.inj h2)
                    have hne2 : x ≠ z := fun z => hij.2.1 (by subst z; rw [h1] at h2'; exact Option.some.inj h2')
                    have hne3 : y ≠ z := fun z => hij.2.2 (by subst z; rw [h2] at h2'; exact Option.some.inj h2')
                    exact ds_par3 W.wd.calm nd (by rw [W.wd.nm]; exact ixOf_get h1) (by rw [W.wd.nm]; exact ixOf_get h2) (by rw [W.wd.nm]; exact ixOf_get h2') hij.1 hij.2.1 hij.2.2 (by rw [W.wd.sc]; exact hx) (by rw [W.wd.sc]; exact hy) (by rw [W.wd.sc]; exact hz) (i3 ν)
                      (swapped_three (by rw [W.wd.sc]; exact W.kind) (by rw [W.wd.sc]; exact hx) (by rw [W.wd.sc]; exact hy) (by rw [W.wd.sc]; exact hz) hl hl2 hne hne2 hne3 i1.1 i1.2.1 i1.2.2.1 hf hcc)
                  · cases h
                · cases h
              · cases h
            · cases h
        · cases h
      · -- another target
        split at h
        · cases h
        · rename_i hnn
          split at h
          · split at h
            · cases h
            · cases h
            · rename_i hnt hnl
              split at h
              · rename_i t x h1 h2
                cases h
                exact ds_asg (I.e W.wd h2 ν).1 (I.t W.wd W.asn h1 ν) (cT_nostar h1) (swaps_other' hnn) (swapped_otherT hnt hnl)
              · cases h
          · rename_i hnv
            split at h
            · rename_i t x h1 h2
              cases h
              exact ds_asg (I.e W.wd h2 ν).1 (I.t W.wd W.asn h1 ν) (cT_nostar h1) (swaps_other' hnn) (swapped_otherV hnv)
            · cases h
      · split at h
        · rename_i hx
          split at h
          · rename_i i o e h1 h2 h3
            have := op2_of h2
            subst this
            split at h
            · cases h; exact ds_aug _ nd (by rw [W.wd.nm]; exact ixOf_get h1) (W.wd.loc hx) (W.asn _ hx hx) (I.e W.wd h3 ν).1
            · cases h; exact ds_aug _ nd (by rw [W.wd.nm]; exact ixOf_get h1) (W.wd.loc hx) (W.asn _ hx hx) (I.e W.wd h3 ν).1
            · cases h
          · cases h
        · cases h
      · split at h
        · rename_i hf
          split at h
          · rename_i o x e h1 h2 h3
            have := op2_of h1
            subst this
            split at h
            · cases h; exact ds_augF _ (W.wd.fld _ hf) (I.e W.wd h2 ν).1 (I.e W.wd h3 ν).1
            · cases h; exact ds_augF _ (W.wd.fld _ hf) (I.e W.wd h2 ν).1 (I.e W.wd h3 ν).1
            · cases h
          · cases h
        · cases h
      · split at h
        · cases h
        · rename_i hc
          obtain ⟨y, h1, rfl⟩ := Option.map_eq_some_iff.mp h
          exact ds_expr (Bool.eq_false_iff.mpr hc) (I.e W.wd h1 ν).1
      · cases h
        exact ds_retN
      · obtain ⟨y, h1, rfl⟩ := Option.map_eq_some_iff.mp h
        exact ds_ret (I.e W.wd h1 ν).1
      · split at h
        · rename_i x y z h1 h2 h3
          cases h
          exact ds_if (I.e W.wd h1 ν).2 (ib W h2 ν) (ib W h3 ν)
        · cases h
      · split at h
        · rename_i x y h1 h2
          cases h
          exact ds_while W.pas (I.e W.wd h1 ν).2 (ib W h2 ν)
        · cases h
      · split at h
        · rename_i i t y h1 h2 h3
          cases h
          exact ds_for W.pas W.wd.calm (I.it W.wd h1 tup_of ν) (I.t W.wd W.asn h2 ν) (ib W h3 ν) (cIt_nofold h1 _)
        · cases h
      · cases h; exact ds_pass
      · cases h; exact ds_brk
      · cases h; exact ds_cont
      · cases h
    · cases st with
      | nil =>
        simp only [cB, Option.some.injEq] at h
        subst h
        exact dss_nil
      | cons s r =>
        simp only [cB] at h
        split at h
        · rename_i x y h1 h2
          cases h
          exact dss_cons (is W h1 ν) (ib W h2 ν)
        · cases h
end
end Mp
set_option Elab.async false
set_option linter.all false
set_option maxRecDepth 100000
set_option maxHeartbeats 4000000
namespace Mp
open PySem PySem.Spec PyProof.Rows L2

/-! ### a law's defs -/
structure Df where
  at_ : Str × Option Str
  name : Str
  qual : Str
  st : Stmt
  N : List Str
  P : List Str
  body : Ss
def Df.dd (d : Df) : He.DefD := ⟨d.at_, d.name, d.qual, defArgs d.st, defBody d.st, defScope d.st, [], []⟩
structure Lw where
  ds : List Df
  cl : List Str
  blt : List Str
  flds : List Str
  muts : List (Nat × Nat)
  dts : List (Nat × Nat)
def fnsFrom : List Df → Nat → List (Str × Nat)
  | [], _ => []
  | d :: r, i => match d.at_.2 with
    | none => (d.at_.1, i) :: fnsFrom r (i + 1)
    | some _ => fnsFrom r (i + 1)
def clsFrom : List Str → Nat → List (Str × Nat)
  | [], _ => []
  | x :: r, i => (x, i) :: clsFrom r (i + 1)
def findDf (p : Str × Option Str) : List Df → Nat → Option Nat
  | [], _ => none
  | d :: r, i => if d.at_ = p then some i else findDf p r (i + 1)
def methNames (ds : List Df) : List Str := ds.filterMap fun d => match d.at_.2 with
  | some m => if m = ("__init__" : Str) then none else some m
  | none => none
def Lw.G (L : Lw) : Gx := ⟨fnsFrom L.ds 0, clsFrom L.cl 0, [], L.blt, methNames L.ds, L.flds, L.muts, L.dts⟩
def Lw.pg (L : Lw) (fuel : Nat) : Pg :=
  ⟨fun i => match L.ds[i]? with
    | some d => ⟨d.N.length, d.P.length, d.body⟩
    | none => ⟨0, 0, .nil⟩,
  fun C m => match L.cl[C]? with
    | some x => findDf (x, some m) L.ds 0
    | none => none,
  fun C => match L.cl[C]? with
    | some x => findDf (x, some "__init__") L.ds 0
    | none => none,
  fun _ => .non, fuel⟩
def factD (d : Df) : List He.Fa := match d.at_.2 with
  | none => [.glo d.at_.1]
  | some m => if m = ("__init__" : Str) then [.mkr d.at_.1] else [.meth d.at_.1 m]
def Lw.fa (L : Lw) : List He.Fa := (L.ds.map factD).flatten ++ (L.cl.map fun x => [He.Fa.glo x, .cls x] ++ L.flds.map (.noat x)).flatten ++ L.blt.map .free
def Lw.fn (L : Lw) : List He.DefD := L.ds.map Df.dd
def Lw.ca (L : Lw) (K : PySem.W.Frag) (n : Nat) : Addr := He.ga K (L.cl.getD n (L.cl.headD ""))
/-- what is checked of each def -/
structure DOk (L : Lw) (n : Nat) (d : Df) : Prop where
  sc : FnScope d.N d.P (defScope d.st)
  cp : cB L.G d.N n (defScope d.st) (defBody d.st) = some d.body
  bd : ∀ (kV doc pm : Value) (an : Option Addr) (cdv ct : Value) (us : List Value), us.length = d.P.length → bindArgs (PySem.W.fnOf d.name d.qual (defArgs d.st) (defBody d.st) (defScope d.st) .none kV doc pm an cdv ct) ⟨us, []⟩ = pure (d.P.zip us)

theorem fnsFrom_ok {x : Str} {i : Nat} : ∀ {ds : List Df} {j : Nat}, (fnsFrom ds j).lookup x = some i → ∃ k d, i = j + k ∧ ds[k]? = some d ∧ d.at_ = (x, none)
  | [], _, h => by simp [fnsFrom] at h
  | d :: r, j, h => by
    have step : (fnsFrom r (j + 1)).lookup x = some i → ∃ k d', i = j + k ∧ (d :: r)[k]? = some d' ∧ d'.at_ = (x, none) := fun h => by
      obtain ⟨k, d', e1, e2, e3⟩ := fnsFrom_ok h
      exact ⟨k + 1, d', by omega, by simpa using e2, e3⟩
    unfold fnsFrom at h
    split at h
    · rename_i e
      rw [List.lookup_cons] at h
      split at h
      · rename_i hb
        cases h
        refine ⟨0, d, rfl, rfl, ?_⟩
        rw [eq_of_beq hb]
        rw [← e]
      · exact step h
    · exact step h
theorem clsFrom_ok {x : Str} {i : Nat} : ∀ {cl : List Str} {j : Nat}, (clsFrom cl j).lookup x = some i → ∃ k, i = j + k ∧ cl[k]? = some x
  | [], _, h => by simp [clsFrom] at h
  | y :: r, j, h => by
    unfold clsFrom at h
    rw [List.lookup_cons] at h
    split at h
    · rename_i hb
      cases h
      exact ⟨0, rfl, by rw [eq_of_beq hb]; rfl⟩
    · obtain ⟨k, e1, e2⟩ := clsFrom_ok h
      exact ⟨k + 1, by omega, by simpa using e2⟩
theorem findDf_ok {p : Str × Option Str} {i : Nat} : ∀ {ds : List Df} {j : Nat}, findDf p ds j = some i → ∃ k d, i = j + k ∧ ds[k]? = some d ∧ d.at_ = p
  | [], _, h => by simp [findDf] at h
  | d :: r, j, h => by
    unfold findDf at h
    split at h
    · rename_i e
      cases h
      exact ⟨0, d, rfl, rfl, e⟩
    · obtain ⟨k, d', e1, e2, e3⟩ := findDf_ok h
      exact ⟨k + 1, d', by omega, by simpa using e2, e3⟩

/-- a def's promise, by the written part -/
def spK (K : PySem.W.Frag) (ca : Nat → Addr) (g : List D → M D) : Sp := fun vs H Q _ => ∃ ν S μ ds, RelS ⟨K, ca, ν⟩ μ S H ∧ RelDs ⟨K, ca, ν⟩ μ H ds vs ∧ ∃ d S', g ds S = .ok d S' ∧ Post ⟨K, ca, ν⟩ μ H d S' Q
section
variable {L : Lw} {n : Nat} {P : Program} {w : World} {K : PySem.W.Frag} {mg : Str → Option Value} {base h : Heap} {fuel : Nat}
theorem start_rel {c : Cn} {μ : List Addr} {H : Hp} {N : List Str} {ds : List D} {vs : List V} (q : RelDs c μ H ds vs) : RelSl c μ H (startD N.length ds) (L2.start N vs) := by
  have hl := q.length
  refine ⟨by simp [startD, L2.start, hl], fun i d e => ?_⟩
  unfold startD at e
  unfold L2.start
  by_cases hi : i < ds.length
  · rw [List.getElem?_append_left (by simpa using hi)] at e
    rw [List.getElem?_map] at e
    obtain ⟨d', e1, e2⟩ := Option.map_eq_some_iff.mp e
    cases e2
    obtain ⟨v, e3, q'⟩ := q.get e1
    refine ⟨v, ?_, q'⟩
    rw [List.getElem?_append_left (by rw [List.length_map, ← hl]; exact hi), List.getElem?_map, e3]
    rfl
  · rw [List.getElem?_append_right (by simpa using Nat.le_of_not_lt hi)] at e
    rw [List.getElem?_replicate] at e
    split at e <;> simp at e
/-- THE LAW'S DEFS: each keeps the promise that its evaluation makes -/
theorem defs_ok (hds : ∀ d ∈ L.ds, DOk L n d) (hcl : L.cl ≠ [] ∨ L.flds = []) (X : K.In h) (G : h.Ns mainGlobals mg) (c : He.SaysD L.fa L.fn K) :
    ∀ (k i : Nat) (d : Df), L.ds[i]? = some d → ∀ fd, FunD K d.name d.qual (defArgs d.st) (defBody d.st) (defScope d.st) [] [] (He.fAd K d.at_) fd →
      FnOk P w K mg base CX0 k (He.fAd K d.at_) fd d.P (spK K (L.ca K) (run (L.pg fuel) k i))
  | 0, i, d, hd, fd, F => by
    refine ⟨fun vs H Q E h => ?_, fun A outer s H args us vs Q E hr e0 hb hv h => ?_⟩
    · obtain ⟨_, _, _, _, _, _, _, _, e, _⟩ := h
      cases e
    · obtain ⟨_, _, _, _, _, _, _, _, e, _⟩ := h
      cases e
  | k + 1, i, d, hd, fd, F => by
    have ih := defs_ok hds hcl X G c k
    have D := hds d (List.mem_of_getElem? hd)
    have hpg : (L.pg fuel).fns i = ⟨d.N.length, d.P.length, d.body⟩ := by
      show (match L.ds[i]? with
        | some d => (⟨d.N.length, d.P.length, d.body⟩ : Fn)
        | none => ⟨0, 0, .nil⟩) = _
      rw [hd]
    have fun_ : ∀ (i : Nat) (d : Df), L.ds[i]? = some d → ∃ fd, FunD K d.name d.qual (defArgs d.st) (defBody d.st) (defScope d.st) [] [] (He.fAd K d.at_) fd ∧ L2.Binds K fd d.P [] := fun i d hd => by
      obtain ⟨fd, F⟩ := c.defs (d := d.dd) (List.mem_map.mpr ⟨d, List.mem_of_getElem? hd, rfl⟩)
      exact ⟨fd, F, F.bindsN (hds d (List.mem_of_getElem? hd)).bd⟩
    have factd : ∀ (d : Df), d ∈ L.ds → ∀ f ∈ factD d, f.ok K = true := fun d hd f hf =>
      c.facts (List.mem_append_left _ (List.mem_append_left _ (List.mem_flatten.mpr ⟨_, List.mem_map.mpr ⟨d, hd, rfl⟩, hf⟩)))
    have factc : ∀ x ∈ L.cl, ∀ f, (f = He.Fa.glo x ∨ f = .cls x ∨ ∃ y ∈ L.flds, f = .noat x y) → f.ok K = true := fun x hx f hf => by
      refine c.facts (List.mem_append_left _ (List.mem_append_right _ (List.mem_flatten.mpr ⟨_, List.mem_map.mpr ⟨x, hx, rfl⟩, ?_⟩)))
      rcases hf with rfl | rfl | ⟨y, hy, rfl⟩
      · simp
      · simp
      · exact List.mem_append_right _ (List.mem_map.mpr ⟨y, hy, rfl⟩)
    have cam : ∀ C x, L.cl[C]? = some x → L.ca K C = He.ga K x := fun C x h => by
      unfold Lw.ca
      rw [List.getD_eq_getElem?_getD, h]
      rfl
    have cax : L.cl ≠ [] → ∀ C, ∃ x ∈ L.cl, L.ca K C = He.ga K x := fun hne C => by
      unfold Lw.ca
      rw [List.getD_eq_getElem?_getD]
      cases e : L.cl[C]? with
      | some x => exact ⟨x, List.mem_of_getElem? e, rfl⟩
      | none =>
        cases hc : L.cl with
        | nil => exact absurd hc hne
        | cons y r => exact ⟨y, List.mem_cons_self, rfl⟩
    refine F.ok D.sc (fun vs H Q E h => ?_) (fun cdv A outer s H vs Q E hr h => ?_)
    · obtain ⟨ν, S, μ, ds, r, q, d', S', e, _⟩ := h
      rw [run_succ] at e
      unfold runB at e
      rw [hpg] at e
      rw [← q.length]
      split at e
      · assumption
      · cases e
    · obtain ⟨ν, S, μ, ds, r, q, d', S', e, post⟩ := h
      rw [run_succ] at e
      unfold runB at e
      rw [hpg] at e
      split at e
      · rename_i hlen
        obtain ⟨⟨f, σ'⟩, S1, e1, e2⟩ := bind_ok.mp e
        generalize hXX : (cxOf CX0 P w K mg base d.N d.qual (defScope d.st) (He.fAd K d.at_) cdv A outer s H E).nox = XX
        have wt : Wt L.G ⟨run (L.pg fuel) k, run (L.pg fuel) k.pred, (L.pg fuel).meth, (L.pg fuel).ini, (L.pg fuel).glob, (L.pg fuel).fuel⟩ (L.ca K) d.N XX (defScope d.st) := by
          subst hXX
          refine ⟨⟨rfl, ?_, rfl, D.sc.nd, rfl, fun x hx => ?_, fun x j hx => ?_, fun f hf C => ?_, fun x j hx => ?_, fun x C j hx hj => ?_, fun m hm C j hj => ?_⟩, PassesOwn.never, D.sc.kind, fun x _ _ => .inl rfl⟩
          · have := hr.un
            show (A.deeper _).units + 65 < cLine
            omega
          · exact He.free_ok X G (c.facts (List.mem_append_right _ (List.mem_map.mpr ⟨x, (by simpa [Lw.G] using hx), rfl⟩)))
          · simp [Lw.G] at hx
          · rcases hcl with hcl | hcl
            · obtain ⟨x, hx, e⟩ := cax hcl C
              show Cls K (L.ca K C) ∧ NoAttr K (L.ca K C) f
              rw [e]
              have hf' : f ∈ L.flds := by simpa [Lw.G] using hf
              exact ⟨He.cls_ok (factc x hx _ (.inr (.inl rfl))), He.noat_ok (factc x hx _ (.inr (.inr ⟨f, hf', rfl⟩)))⟩
            · have hf' : f ∈ L.flds := by simpa [Lw.G] using hf
              rw [hcl] at hf'
              cases hf'
          · obtain ⟨m, d2, rfl, h2, h3⟩ := fnsFrom_ok hx
            rw [Nat.zero_add]
            obtain ⟨fd2, F2, B2⟩ := fun_ m d2 h2
            have hat : He.fAd K d2.at_ = He.ga K x := by rw [h3]; rfl
            refine ⟨k, He.fAd K d2.at_, fd2, d2.P, ?_, F2.kp, ih m d2 h2 fd2 F2, hr, B2⟩
            rw [hat]
            exact He.glo_ok X G (factd d2 (List.mem_of_getElem? h2) _ (by unfold factD; rw [h3]; simp))
          · obtain ⟨m, rfl, h2⟩ := clsFrom_ok hx
            rw [Nat.zero_add] at hj ⊢
            cases k with
            | zero => exact .inl fun ds S => rfl
            | succ k =>
              refine .inr ?_
              have hj' : findDf (x, some "__init__") L.ds 0 = some j := by
                have : (match L.cl[m]? with
                  | some x => findDf (x, some "__init__") L.ds 0
                  | none => none) = some j := hj
                rw [h2] at this
                exact this
              obtain ⟨m2, d2, rfl, h3, h4⟩ := findDf_ok hj'
              rw [Nat.zero_add]
              obtain ⟨fd2, F2, B2⟩ := fun_ m2 d2 h3
              have hca := cam m x h2
              have hat : He.fAd K d2.at_ = He.ma K (He.ga K x) "__init__" := by rw [h4]; rfl
              have hmk := He.mkr_ok (K := K) (x := x) (factd d2 (List.mem_of_getElem? h3) _ (by unfold factD; rw [h4]; simp))
              refine ⟨k, He.fAd K d2.at_, fd2, d2.P, ?_, ?_, ?_, hr, B2⟩
              · show mg x = some (.ref (L.ca K m))
                rw [hca]
                exact He.glo_ok X G (factc x (List.mem_of_getElem? h2) _ (.inl rfl))
              · show Mk K (L.ca K m) _
                rw [hca, hat]
                exact hmk
              · have := defs_ok hds hcl X G c k m2 d2 h3 fd2 F2
                exact this
          · have hj1 : (match L.cl[C]? with
              | some x => findDf (x, some m) L.ds 0
              | none => none) = some j := hj
            cases hC : L.cl[C]? with
            | none => rw [hC] at hj1; cases hj1
            | some x =>
              rw [hC] at hj1
              obtain ⟨m2, d2, rfl, h3, h4⟩ := findDf_ok (show findDf (x, some m) L.ds 0 = some j from hj1)
              rw [Nat.zero_add]
              obtain ⟨fd2, F2, B2⟩ := fun_ m2 d2 h3
              have hca := cam C x hC
              have hat : He.fAd K d2.at_ = He.ma K (He.ga K x) m := by rw [h4]; rfl
              have hne : ¬ m = ("__init__" : Str) := fun z => by
                have hm' : m ∈ methNames L.ds := by simpa [Lw.G] using hm
                unfold methNames at hm'
                obtain ⟨d3, _, e3⟩ := List.mem_filterMap.mp hm'
                split at e3
                · split at e3
                  · cases e3
                  · rename_i hn _ hnn
                    cases e3
                    exact hnn z
                · cases e3
              have hme := He.meth_ok (K := K) (x := x) (m := m) (factd d2 (List.mem_of_getElem? h3) _ (by unfold factD; rw [h4]; simp [hne]))
              refine ⟨?_, k, He.fAd K d2.at_, fd2, d2.P, ?_, ih m2 d2 h3 fd2 F2, hr, B2⟩
              · show Cls K (L.ca K C)
                rw [hca]
                exact He.cls_ok (factc x (List.mem_of_getElem? hC) _ (.inr (.inl rfl)))
              · show Meth K (L.ca K C) m _
                rw [hca, hat]
                exact hme
        have body := (snd_s (G := L.G) (ca := L.ca K) (N := d.N) n).2 wt D.cp ν
        subst hXX
        refine ⟨_, PSs.nox body, ⟨startD d.N.length ds, S, μ, r, start_rel q, (f, σ'), S1, e1, ?_⟩⟩
        cases f with
        | nx =>
          obtain ⟨rfl, rfl⟩ := pure_ok.mp e2
          exact fun μ' H' σ2 st r2 rl2 => post μ' H' _ st r2 .non
        | rt d2 =>
          obtain ⟨rfl, rfl⟩ := pure_ok.mp e2
          exact post
        | bk => cases e2
        | ct => cases e2
      · cases e
end
end Mp
set_option Elab.async false
set_option linter.all false
set_option maxRecDepth 100000
set_option maxHeartbeats 4000000
namespace Mp
open PySem PySem.Spec PyProof.Rows L2
theorem spK_law {K : PySem.W.Frag} {ca : Nat → Addr} {g : List D → M D} {H : Hp} {a : Addr} {ns : List Int} (hO : Only H) (hS : SqL K H a (ns.map V.int)) (hg : ∃ S', g [.scr ns] [] = .ok (.bl true) S') : spK K ca g [.ref a] H (fun v _ => v = .bl true) fun _ _ _ => False := by
  obtain ⟨S', e⟩ := hg
  have hs : Scr K H a ns := by
    rcases hS with (h | ⟨o, h⟩) | h
    · rcases hO a with z | ⟨o, xs, z⟩
      · rw [z] at h; cases h
      · rw [z] at h; cases h
    · exact .inl ⟨o, h⟩
    · exact .inr h
  refine ⟨[], [], [], [.scr ns], ⟨rfl, List.nodup_nil, fun a h => (by cases h), fun n o h => (by simp at h)⟩, .cons (.scr hs) .nil, .bl true, S', e, fun μ' H' v st r q => ?_⟩
  cases q
  rfl
/-- THE LAW -/
theorem law_facts {L : Lw} {n i k : Nat} {d : Df} {P : Program} {w : World} {K : PySem.W.Frag} {mg : Str → Option Value} {h : Heap} {f : Addr} {x : Str} (hds : ∀ d ∈ L.ds, DOk L n d) (hcl : L.cl ≠ [] ∨ L.flds = []) (X : K.In h) (G : h.Ns mainGlobals mg)
    (hd : L.ds[i]? = some d) (hat : d.at_ = (x, none)) (hP : d.P = [("script" : Str)]) (hfa : mg x = some (.ref f)) (c : He.SaysD L.fa L.fn K) (hrun : ∀ ns : List Int, ns.length ≤ 63 → ∃ fuel S', run (L.pg fuel) k i [.scr ns] [] = .ok (.bl true) S') :
    ∃ (fd : FuncData) (sp : Sp), (∀ (s : Shared) (v : Value), BindsTo s fd ⟨[v], []⟩ [("script", v)]) ∧ (∀ (H : Hp) (a : Addr) (ns : List Int), ns.length ≤ 63 → Only H → SqL K H a (ns.map V.int) → sp [.ref a] H (fun v _ => v = .bl true) fun _ _ _ => False) ∧
      ∀ base : Heap, K.In base → base.Ns mainGlobals mg → FnOk P w K mg base CX0 k f fd [("script" : Str)] sp := by
  obtain ⟨fd, F⟩ := c.defs (d := d.dd) (List.mem_map.mpr ⟨d, List.mem_of_getElem? hd, rfl⟩)
  have D := hds d (List.mem_of_getElem? hd)
  have hf : He.fAd K d.at_ = f := by
    have h1 := He.glo_ok X G (x := x) (c.facts (List.mem_append_left _ (List.mem_append_left _ (List.mem_flatten.mpr ⟨_, List.mem_map.mpr ⟨d, List.mem_of_getElem? hd, rfl⟩, by unfold factD; rw [hat]; simp⟩))))
    rw [hfa] at h1
    rw [hat]
    cases h1
    rfl
  have bd := D.bd
  rw [hP] at bd
  refine ⟨fd, fun vs H Q E => ∃ fuel, spK K (L.ca K) (run (L.pg fuel) k i) vs H Q E, fun s v => FunD.bindsA F (ps := [("script" : Str)]) bd s [v] rfl, fun H a ns hl hO hS => ?_, fun base Xb Gb => ?_⟩
  · obtain ⟨fuel, h1⟩ := hrun ns hl
    exact ⟨fuel, spK_law hO hS h1⟩
  · have key : ∀ fuel, FnOk P w K mg base CX0 k f fd [("script" : Str)] (spK K (L.ca K) (run (L.pg fuel) k i)) := fun fuel => by
      have := defs_ok (P := P) (w := w) (base := base) (fuel := fuel) hds hcl X G c k i d hd fd F
      rw [hf, hP] at this
      exact this
    exact ⟨fun vs H Q E ⟨fuel, q⟩ => (key fuel).len vs H Q E q, fun A outer s H args us vs Q E hr he hb hv ⟨fuel, q⟩ => (key fuel).run A outer s H args us vs Q E hr he hb hv q⟩
end Mp
set_option Elab.async false
set_option linter.all false
set_option maxRecDepth 100000
set_option maxHeartbeats 1000000
namespace Mp
open PySem

/-! ### what must hold ahead -/
def wp {α : Type} (m : M α) (Q : α → Sto → Prop) (S : Sto) : Prop := ∃ a S', m S = .ok a S' ∧ Q a S'
section
variable {α β : Type} {S S' : Sto}
theorem wp_mono {m : M α} {Q Q' : α → Sto → Prop} (h : wp m Q S) (i : ∀ a S', Q a S' → Q' a S') : wp m Q' S := let ⟨a, S', e, q⟩ := h; ⟨a, S', e, i a S' q⟩
@[simp] theorem wp_pure {a : α} {Q : α → Sto → Prop} : wp (pure a) Q S ↔ Q a S := ⟨fun ⟨b, S', e, q⟩ => (by obtain ⟨rfl, rfl⟩ := pure_ok.mp e; exact q), fun q => ⟨a, S, rfl, q⟩⟩
@[simp] theorem wp_bind {m : M α} {f : α → M β} {Q : β → Sto → Prop} : wp (m >>= f) Q S ↔ wp m (fun a S1 => wp (f a) Q S1) S :=
  ⟨fun ⟨b, S', e, q⟩ => (by obtain ⟨a, S1, e1, e2⟩ := bind_ok.mp e; exact ⟨a, S1, e1, b, S', e2, q⟩), fun ⟨a, S1, e1, b, S', e2, q⟩ => ⟨b, S', bind_ok.mpr ⟨a, S1, e1, e2⟩, q⟩⟩
@[simp] theorem wp_fail {Q : α → Sto → Prop} : wp (fail : M α) Q S ↔ False := ⟨fun ⟨_, _, e, _⟩ => (by cases e), False.elim⟩
@[simp] theorem wp_rd {f : Sto → Option α} {Q : α → Sto → Prop} : wp (rd f) Q S ↔ ∃ a, f S = some a ∧ Q a S :=
  ⟨fun ⟨a, S', e, q⟩ => (by obtain ⟨e1, rfl⟩ := rd_ok.mp e; exact ⟨a, e1, q⟩), fun ⟨a, e, q⟩ => ⟨a, S, rd_ok.mpr ⟨e, rfl⟩, q⟩⟩
@[simp] theorem wp_alloc {o : Ob} {Q : D → Sto → Prop} : wp (alloc o) Q S ↔ Q (.hd S.length) (S ++ [o]) := ⟨fun ⟨d, S', e, q⟩ => (by obtain ⟨rfl, rfl⟩ := alloc_ok e; exact q), fun q => ⟨_, _, rfl, q⟩⟩
@[simp] theorem wp_stp {f : Sto → Option Sto} {Q : Unit → Sto → Prop} : wp (stp f) Q S ↔ ∃ S', f S = some S' ∧ Q () S' :=
  ⟨fun ⟨a, S', e, q⟩ => ⟨S', stp_ok e, q⟩, fun ⟨S', e, q⟩ => ⟨(), S', by unfold stp; rw [e], q⟩⟩
@[simp] theorem wp_stpD {f : Sto → Option (D × Sto)} {Q : D → Sto → Prop} : wp (stpD f) Q S ↔ ∃ d S', f S = some (d, S') ∧ Q d S' := by
  constructor
  · rintro ⟨d, S', e, q⟩
    unfold stpD at e
    split at e
    · rename_i h; cases e; exact ⟨d, S', h, q⟩
    · cases e
  · rintro ⟨d, S', e, q⟩
    exact ⟨d, S', by unfold stpD; rw [e], q⟩
@[simp] theorem wp_capped {ds : List D} {Q : List D → Sto → Prop} : wp (capped ds) Q S ↔ ds.length ≤ sizeLine ∧ Q ds S := by
  unfold capped
  split
  · rename_i h; rw [wp_pure]; exact ⟨fun q => ⟨h, q⟩, fun q => q.2⟩
  · rename_i h; rw [wp_fail]; exact ⟨False.elim, fun q => h q.1⟩
@[simp] theorem wp_test {m : M D} {Q : Bool → Sto → Prop} : wp (test m) Q S ↔ wp m (fun d S1 => ∃ b, truP S1 d = some b ∧ Q b S1) S := by
  unfold test
  rw [wp_bind]
  constructor
  · rintro ⟨d, S1, e, h⟩
    exact ⟨d, S1, e, wp_rd.mp h⟩
  · rintro ⟨d, S1, e, h⟩
    exact ⟨d, S1, e, wp_rd.mpr h⟩
theorem wp_ite {c : Prop} [Decidable c] {a b : M α} {Q : α → Sto → Prop} : wp (if c then a else b) Q S ↔ if c then wp a Q S else wp b Q S := by
  split <;> rfl
@[simp] theorem wp_true {a b : M α} {Q : α → Sto → Prop} : wp (if true = true then a else b) Q S ↔ wp a Q S := by rw [if_pos rfl]
@[simp] theorem wp_false {a b : M α} {Q : α → Sto → Prop} : wp (if false = true then a else b) Q S ↔ wp b Q S := by rw [if_neg Bool.false_ne_true]
end

/-! ### loops over what stands still -/
section
variable {ds : List D} {fuel : Nat}
theorem wp_loopF {src : Src} {t : D → Sl → M Sl} {b : Sl → M (Fl × Sl)} {Q : Fl × Sl → Sto → Prop} (I : Nat → Sl → Sto → Prop) (n : Nat) (hle : ∀ i σ S, I i σ S → i ≤ n)
    (hnx : ∀ i σ S, I i σ S → ∃ o, src.next i S = .ok o S ∧ (match o with
      | none => Q (.nx, σ) S
      | some d => wp (t d σ) (fun σ1 S1 => wp (b σ1) (fun r S2 => (r.1 = .nx ∨ r.1 = .ct → I (i + 1) r.2 S2) ∧ (r.1 = .bk → Q (.nx, r.2) S2) ∧ ∀ v, r.1 = .rt v → Q (.rt v, r.2) S2) S1) S)) :
    ∀ k i σ S, n < k + i → I i σ S → wp (loopF src t b k i σ) Q S := by
  intro k
  induction k with
  | zero =>
    intro i σ S hk h
    have := hle i σ S h
    omega
  | succ k ih =>
    intro i σ S hk h
    obtain ⟨o, e, h1⟩ := hnx i σ S h
    simp only [loopF]
    rw [wp_bind]
    refine ⟨o, S, e, ?_⟩
    cases o with
    | none => exact wp_pure.mpr h1
    | some d =>
      simp only [wp_bind]
      refine wp_mono h1 fun σ1 S1 h2 => wp_mono h2 fun r S2 h3 => ?_
      obtain ⟨f, σ2⟩ := r
      cases f with
      | nx => exact ih _ _ _ (by omega) (h3.1 (.inl rfl))
      | ct => exact ih _ _ _ (by omega) (h3.1 (.inr rfl))
      | bk => exact wp_pure.mpr (h3.2.1 rfl)
      | rt v => exact wp_pure.mpr (h3.2.2 v rfl)
theorem next_ha {m i : Nat} {S : Sto} (h : S[m]? = some (.lst ds)) : (Src.ha m).next i S = .ok ds[i]? S := by
  simp only [Src.next, rd, h]
theorem next_he {m i : Nat} {S : Sto} (h : S[m]? = some (.lst ds)) : (Src.he m).next i S = .ok (ds[i]?.map fun x => .tup [.int (i : Nat), x]) S := by
  simp only [Src.next, rd, h]
/-- what a body does at its end -/
def Turn1 (r : Fl × Sl) (S2 : Sto) (Nx : Sl → Sto → Prop) (Q : Fl × Sl → Sto → Prop) : Prop := match r.1 with
  | .nx => Nx r.2 S2
  | .ct => Nx r.2 S2
  | .bk => Q (.nx, r.2) S2
  | .rt v => Q (.rt v, r.2) S2
theorem turn1 {r : Fl × Sl} {S2 : Sto} {Nx : Sl → Sto → Prop} {Q : Fl × Sl → Sto → Prop} (h : Turn1 r S2 Nx Q) : (r.1 = .nx ∨ r.1 = .ct → Nx r.2 S2) ∧ (r.1 = .bk → Q (.nx, r.2) S2) ∧ ∀ v, r.1 = .rt v → Q (.rt v, r.2) S2 := by
  obtain ⟨f, σ⟩ := r
  cases f with
  | nx => exact ⟨fun _ => h, fun e => (by cases e), fun v e => (by cases e)⟩
  | ct => exact ⟨fun _ => h, fun e => (by cases e), fun v e => (by cases e)⟩
  | bk => exact ⟨fun e => (by rcases e with e | e <;> cases e), fun _ => h, fun v e => (by cases e)⟩
  | rt v => exact ⟨fun e => (by rcases e with e | e <;> cases e), fun e => (by cases e), fun w e => (by cases e; exact h)⟩
theorem wp_for_st {t : D → Sl → M Sl} {b : Sl → M (Fl × Sl)} {Q : Fl × Sl → Sto → Prop} {σ : Sl} {S : Sto} (I : Nat → Sl → Sto → Prop) (h0 : I 0 σ S)
    (step : ∀ i d σ S, ds[i]? = some d → I i σ S → wp (t d σ) (fun σ1 S1 => wp (b σ1) (fun r S2 => Turn1 r S2 (I (i + 1)) Q) S1) S) (hend : ∀ σ S, I ds.length σ S → Q (.nx, σ) S) :
    wp (atCap (.st ds) fuel fun k => loopF (.st ds) t b k 0 σ) Q S := by
  refine wp_loopF (src := .st ds) (fun i σ S => i ≤ ds.length ∧ I i σ S) ds.length (fun _ _ _ h => h.1) (fun i σ S h => ⟨ds[i]?, rfl, ?_⟩) _ 0 σ S (by show ds.length < (ds.length + 1 + fuel) + 0; omega) ⟨Nat.zero_le _, h0⟩
  obtain ⟨hi, h⟩ := h
  cases e : ds[i]? with
  | none =>
    have : ds.length ≤ i := List.getElem?_eq_none_iff.mp e
    have : i = ds.length := by omega
    subst this
    exact hend σ S h
  | some d =>
    have hi' : i < ds.length := (List.getElem?_eq_some_iff.mp e).1
    refine wp_mono (step i d σ S e h) fun σ1 S1 h1 => wp_mono h1 fun r S2 h2 => ?_
    have := turn1 h2
    exact ⟨fun z => ⟨hi', this.1 z⟩, this.2⟩
/-- over a list at a handle that the body leaves as it is -/
theorem wp_for_ha {m : Nat} {t : D → Sl → M Sl} {b : Sl → M (Fl × Sl)} {Q : Fl × Sl → Sto → Prop} {σ : Sl} {S : Sto} (I : Nat → Sl → Sto → Prop) (h0 : I 0 σ S) (hm : ∀ i σ S, I i σ S → S[m]? = some (.lst ds))
    (step : ∀ i d σ S, ds[i]? = some d → I i σ S → wp (t d σ) (fun σ1 S1 => wp (b σ1) (fun r S2 => Turn1 r S2 (I (i + 1)) Q) S1) S) (hend : ∀ σ S, I ds.length σ S → Q (.nx, σ) S) :
    wp (atCap (.ha m) fuel fun k => loopF (.ha m) t b k 0 σ) Q S := by
  have hc : Src.cap S (.ha m) = ds.length + 1 := by
    simp only [Src.cap, hm 0 σ S h0]
  refine wp_loopF (src := .ha m) (fun i σ S => i ≤ ds.length ∧ I i σ S) ds.length (fun _ _ _ h => h.1) (fun i σ S h => ⟨ds[i]?, next_ha (hm i σ S h.2), ?_⟩) _ 0 σ S (by rw [hc]; omega) ⟨Nat.zero_le _, h0⟩
  obtain ⟨hi, h⟩ := h
  cases e : ds[i]? with
  | none =>
    have : ds.length ≤ i := List.getElem?_eq_none_iff.mp e
    have : i = ds.length := by omega
    subst this
    exact hend σ S h
  | some d =>
    have hi' : i < ds.length := (List.getElem?_eq_some_iff.mp e).1
    refine wp_mono (step i d σ S e h) fun σ1 S1 h1 => wp_mono h1 fun r S2 h2 => ?_
    have := turn1 h2
    exact ⟨fun z => ⟨hi', this.1 z⟩, this.2⟩
theorem wp_for_he {m : Nat} {t : D → Sl → M Sl} {b : Sl → M (Fl × Sl)} {Q : Fl × Sl → Sto → Prop} {σ : Sl} {S : Sto} (I : Nat → Sl → Sto → Prop) (h0 : I 0 σ S) (hm : ∀ i σ S, I i σ S → S[m]? = some (.lst ds))
    (step : ∀ (i : Nat) d σ S, ds[i]? = some d → I i σ S → wp (t (.tup [.int (i : Nat), d]) σ) (fun σ1 S1 => wp (b σ1) (fun r S2 => Turn1 r S2 (I (i + 1)) Q) S1) S) (hend : ∀ σ S, I ds.length σ S → Q (.nx, σ) S) :
    wp (atCap (.he m) fuel fun k => loopF (.he m) t b k 0 σ) Q S := by
  have hc : Src.cap S (.he m) = ds.length + 1 := by
    simp only [Src.cap, hm 0 σ S h0]
  refine wp_loopF (src := .he m) (fun i σ S => i ≤ ds.length ∧ I i σ S) ds.length (fun _ _ _ h => h.1) (fun i σ S h => ⟨ds[i]?.map fun x => .tup [.int (i : Nat), x], next_he (hm i σ S h.2), ?_⟩) _ 0 σ S (by rw [hc]; omega) ⟨Nat.zero_le _, h0⟩
  obtain ⟨hi, h⟩ := h
  cases e : ds[i]? with
  | none =>
    have : ds.length ≤ i := List.getElem?_eq_none_iff.mp e
    have : i = ds.length := by omega
    subst this
    exact hend σ S h
  | some d =>
    have hi' : i < ds.length := (List.getElem?_eq_some_iff.mp e).1
    refine wp_mono (step i d σ S e h) fun σ1 S1 h1 => wp_mono h1 fun r S2 h2 => ?_
    have := turn1 h2
    exact ⟨fun z => ⟨hi', this.1 z⟩, this.2⟩
theorem enumD_len : ∀ {xs : List D} {k : Nat}, (enumD k xs).length = xs.length
  | [], _ => rfl
  | _ :: r, k => by simp [enumD, enumD_len (xs := r)]
theorem rngD_len : ∀ {n : Nat} {lo : Int}, (rngD lo n).length = n
  | 0, _ => rfl
  | n + 1, lo => by simp [rngD, rngD_len (n := n)]
/-- over enumerate of what stands by value -/
theorem wp_for_en {t : D → Sl → M Sl} {b : Sl → M (Fl × Sl)} {Q : Fl × Sl → Sto → Prop} {σ : Sl} {S : Sto} (I : Nat → Sl → Sto → Prop) (h0 : I 0 σ S)
    (step : ∀ (i : Nat) d σ S, ds[i]? = some d → I i σ S → wp (t (.tup [.int (i : Nat), d]) σ) (fun σ1 S1 => wp (b σ1) (fun r S2 => Turn1 r S2 (I (i + 1)) Q) S1) S) (hend : ∀ σ S, I ds.length σ S → Q (.nx, σ) S) :
    wp (atCap (.st (enumD 0 ds)) fuel fun k => loopF (.st (enumD 0 ds)) t b k 0 σ) Q S := by
  refine wp_for_st I h0 (fun i d σ S e h => ?_) (by rw [enumD_len]; exact hend)
  rw [enumD_get] at e
  obtain ⟨x, e1, rfl⟩ := Option.map_eq_some_iff.mp e
  rw [Nat.zero_add]
  exact step i x σ S e1 h
/-- over range(lo, lo + n) -/
theorem wp_for_rg {lo : Int} {n : Nat} {t : D → Sl → M Sl} {b : Sl → M (Fl × Sl)} {Q : Fl × Sl → Sto → Prop} {σ : Sl} {S : Sto} (I : Nat → Sl → Sto → Prop) (h0 : I 0 σ S)
    (step : ∀ (i : Nat) σ S, i < n → I i σ S → wp (t (.int (lo + i)) σ) (fun σ1 S1 => wp (b σ1) (fun r S2 => Turn1 r S2 (I (i + 1)) Q) S1) S) (hend : ∀ σ S, I n σ S → Q (.nx, σ) S) :
    wp (atCap (.st (rngD lo n)) fuel fun k => loopF (.st (rngD lo n)) t b k 0 σ) Q S := by
  refine wp_for_st I h0 (fun i d σ S e h => ?_) (by rw [rngD_len]; exact hend)
  rw [rngD_get] at e
  split at e
  · cases e
    exact step i σ S (by assumption) h
  · cases e

/-! ### comprehensions by value -/
theorem wp_loopC {src : Src} {t : D → M Sl} {c : Sl → M Bool} {e : Sl → M D} {Q : List D → Sto → Prop} (I : Nat → List D → Sto → Prop) (n : Nat) (hle : ∀ i acc S, I i acc S → i ≤ n)
    (hnx : ∀ i acc S, I i acc S → ∃ o, src.next i S = .ok o S ∧ (match o with
      | none => Q acc S
      | some d => wp (t d) (fun σ1 S1 => wp (c σ1) (fun k S2 => if k = true then wp (e σ1) (fun v S3 => I (i + 1) (acc ++ [v]) S3) S2 else I (i + 1) acc S2) S1) S)) :
    ∀ k i acc S, n < k + i → I i acc S → wp (loopC src t c e k i) (fun ds S' => Q (acc ++ ds) S') S := by
  intro k
  induction k with
  | zero =>
    intro i acc S hk h
    have := hle i acc S h
    omega
  | succ k ih =>
    intro i acc S hk h
    obtain ⟨o, e, h1⟩ := hnx i acc S h
    simp only [loopC]
    rw [wp_bind]
    refine ⟨o, S, e, ?_⟩
    cases o with
    | none => exact wp_pure.mpr (by rw [List.append_nil]; exact h1)
    | some d =>
      simp only [wp_bind]
      refine wp_mono h1 fun σ1 S1 h2 => wp_mono h2 fun b S2 h3 => ?_
      cases b with
      | true =>
        rw [if_pos rfl] at h3
        rw [wp_true, wp_bind]
        refine wp_mono h3 fun v S3 h4 => ?_
        rw [wp_bind]
        refine wp_mono (ih _ _ _ (by omega) h4) fun ds S' h5 => wp_pure.mpr ?_
        rw [List.append_assoc] at h5
        exact h5
      | false =>
        rw [if_neg Bool.false_ne_true] at h3
        rw [wp_false]
        exact ih _ _ _ (by omega) h3
theorem wp_comp_st {t : D → M Sl} {c : Sl → M Bool} {e : Sl → M D} {Q : List D → Sto → Prop} {S : Sto} (I : Nat → List D → Sto → Prop) (h0 : I 0 [] S)
    (step : ∀ i d acc S, ds[i]? = some d → I i acc S → wp (t d) (fun σ1 S1 => wp (c σ1) (fun k S2 => if k = true then wp (e σ1) (fun v S3 => I (i + 1) (acc ++ [v]) S3) S2 else I (i + 1) acc S2) S1) S) (hend : ∀ acc S, I ds.length acc S → Q acc S) :
    wp (atCap (.st ds) fuel fun k => loopC (.st ds) t c e k 0) Q S := by
  have := wp_loopC (src := .st ds) (t := t) (c := c) (e := e) (Q := Q) (fun i acc S => i ≤ ds.length ∧ I i acc S) ds.length (fun _ _ _ h => h.1) (fun i acc S h => ⟨ds[i]?, rfl, ?_⟩) (ds.length + 1 + fuel) 0 [] S (by omega) ⟨Nat.zero_le _, h0⟩
  · exact this
  · obtain ⟨hi, h⟩ := h
    cases e1 : ds[i]? with
    | none =>
      have : ds.length ≤ i := List.getElem?_eq_none_iff.mp e1
      have : i = ds.length := by omega
      subst this
      exact hend acc S h
    | some d =>
      have hi' : i < ds.length := (List.getElem?_eq_some_iff.mp e1).1
      refine wp_mono (step i d acc S e1 h) fun σ1 S1 h1 => wp_mono h1 fun b S2 h2 => ?_
      cases b with
      | true =>
        rw [if_pos rfl] at h2 ⊢
        exact wp_mono h2 fun v S3 h3 => ⟨hi', h3⟩
      | false =>
        rw [if_neg Bool.false_ne_true] at h2 ⊢
        exact ⟨hi', h2⟩
theorem wp_comp_rg {lo : Int} {n : Nat} {t : D → M Sl} {c : Sl → M Bool} {e : Sl → M D} {Q : List D → Sto → Prop} {S : Sto} (I : Nat → List D → Sto → Prop) (h0 : I 0 [] S)
    (step : ∀ (i : Nat) acc S, i < n → I i acc S → wp (t (.int (lo + i))) (fun σ1 S1 => wp (c σ1) (fun k S2 => if k = true then wp (e σ1) (fun v S3 => I (i + 1) (acc ++ [v]) S3) S2 else I (i + 1) acc S2) S1) S) (hend : ∀ acc S, I n acc S → Q acc S) :
    wp (atCap (.st (rngD lo n)) fuel fun k => loopC (.st (rngD lo n)) t c e k 0) Q S := by
  refine wp_comp_st I h0 (fun i d acc S e h => ?_) (by rw [rngD_len]; exact hend)
  rw [rngD_get] at e
  split at e
  · cases e
    exact step i acc S (by assumption) h
  · cases e
/-- a plain map that leaves the store as it is -/
theorem wp_comp_map {t : D → M Sl} {c : Sl → M Bool} {e : Sl → M D} {Q : List D → Sto → Prop} {S : Sto} (f : D → D) (step : ∀ (i : Nat) d, ds[i]? = some d → wp (t d) (fun σ1 S1 => S1 = S ∧ wp (c σ1) (fun k S2 => S2 = S ∧ k = true ∧ wp (e σ1) (fun v S3 => v = f d ∧ S3 = S) S) S) S) (hend : Q (ds.map f) S) :
    wp (atCap (.st ds) fuel fun k => loopC (.st ds) t c e k 0) Q S := by
  refine wp_comp_st (fun i acc S' => acc = (ds.take i).map f ∧ S' = S) ⟨rfl, rfl⟩ (fun i d acc S' h1 h2 => ?_) (fun acc S' h => ?_)
  · obtain ⟨rfl, rfl⟩ := h2
    refine wp_mono (step i d h1) fun σ1 S1 h2 => ?_
    obtain ⟨rfl, h2⟩ := h2
    refine wp_mono h2 fun k S2 h3 => ?_
    obtain ⟨rfl, rfl, h3⟩ := h3
    rw [if_pos rfl]
    refine wp_mono h3 fun v S3 h4 => ⟨?_, h4.2⟩
    rw [h4.1, List.take_add_one, h1]
    simp
  · obtain ⟨rfl, rfl⟩ := h
    rw [List.take_length]
    exact hend
end

/-! ### a def -/
def envOf (g : Pg) (k : Nat) : En := ⟨run g k, run g k.pred, g.meth, g.ini, g.glob, g.fuel⟩
theorem wp_run {g : Pg} {k f n p : Nat} {b : Ss} {ds : List D} {Q : D → Sto → Prop} {S : Sto} (h : g.fns f = ⟨n, p, b⟩) (hl : ds.length = p)
    (hb : wp (evB (envOf g k) b (startD n ds)) (fun r S' => match r.1 with
      | .rt d => Q d S'
      | .nx => Q .non S'
      | _ => False) S) : wp (run g (k + 1) f ds) Q S := by
  rw [run_succ]
  unfold runB
  rw [h]
  rw [if_pos hl, wp_bind]
  refine wp_mono hb fun r S' q => ?_
  obtain ⟨fl, σ⟩ := r
  cases fl with
  | rt d => exact wp_pure.mpr q
  | nx => exact wp_pure.mpr q
  | bk => exact q.elim
  | ct => exact q.elim
theorem get_set {S : Sto} {n : Nat} {o o' : Ob} (h : S[n]? = some o) : (S.set n o')[n]? = some o' := List.getElem?_set_self (List.getElem?_eq_some_iff.mp h).1
end Mp
namespace Mp
open PySem
section
variable {ds : List D} {fuel : Nat}
theorem wp_comp_ha {m : Nat} {t : D → M Sl} {c : Sl → M Bool} {e : Sl → M D} {Q : List D → Sto → Prop} {S : Sto} (I : Nat → List D → Sto → Prop) (h0 : I 0 [] S) (hm : ∀ i acc S, I i acc S → S[m]? = some (.lst ds))
    (step : ∀ (i : Nat) d acc S, ds[i]? = some d → I i acc S → wp (t d) (fun σ1 S1 => wp (c σ1) (fun k S2 => if k = true then wp (e σ1) (fun v S3 => I (i + 1) (acc ++ [v]) S3) S2 else I (i + 1) acc S2) S1) S) (hend : ∀ acc S, I ds.length acc S → Q acc S) :
    wp (atCap (.ha m) fuel fun k => loopC (.ha m) t c e k 0) Q S := by
  have hc : Src.cap S (.ha m) = ds.length + 1 := by
    simp only [Src.cap, hm 0 [] S h0]
  have := wp_loopC (src := .ha m) (t := t) (c := c) (e := e) (Q := Q) (fun i acc S => i ≤ ds.length ∧ I i acc S) ds.length (fun _ _ _ h => h.1) (fun i acc S h => ⟨ds[i]?, next_ha (hm i acc S h.2), ?_⟩) (Src.cap S (.ha m) + fuel) 0 [] S (by rw [hc]; omega) ⟨Nat.zero_le _, h0⟩
  · exact this
  · obtain ⟨hi, h⟩ := h
    cases e1 : ds[i]? with
    | none =>
      have : ds.length ≤ i := List.getElem?_eq_none_iff.mp e1
      have : i = ds.length := by omega
      subst this
      exact hend acc S h
    | some d =>
      have hi' : i < ds.length := (List.getElem?_eq_some_iff.mp e1).1
      refine wp_mono (step i d acc S e1 h) fun σ1 S1 h1 => wp_mono h1 fun b S2 h2 => ?_
      cases b with
      | true =>
        rw [if_pos rfl] at h2 ⊢
        exact wp_mono h2 fun v S3 h3 => ⟨hi', h3⟩
      | false =>
        rw [if_neg Bool.false_ne_true] at h2 ⊢
        exact ⟨hi', h2⟩
end
end Mp
namespace Mp
open PySem
section
variable {ds : List D} {fuel : Nat}
/-- a filter and a plain map over a list at a handle -/
theorem wp_comp_fm_ha {m : Nat} {t : D → M Sl} {c : Sl → M Bool} {e : Sl → M D} {Q : List D → Sto → Prop} {S : Sto} (p : D → Bool) (f : D → D) (hm : S[m]? = some (.lst ds))
    (step : ∀ d, d ∈ ds → wp (t d) (fun σ1 S1 => S1 = S ∧ wp (c σ1) (fun k S2 => S2 = S ∧ k = p d ∧ (k = true → wp (e σ1) (fun v S3 => v = f d ∧ S3 = S) S)) S) S) (hend : Q ((ds.filter p).map f) S) :
    wp (atCap (.ha m) fuel fun k => loopC (.ha m) t c e k 0) Q S := by
  refine wp_comp_ha (fun i acc S' => acc = ((ds.take i).filter p).map f ∧ S' = S) ⟨rfl, rfl⟩ (fun i acc S h => by rw [h.2]; exact hm) (fun i d acc S' h1 h2 => ?_) (fun acc S' h => ?_)
  · obtain ⟨rfl, rfl⟩ := h2
    refine wp_mono (step d (List.mem_of_getElem? h1)) fun σ1 S1 h2 => ?_
    obtain ⟨rfl, h2⟩ := h2
    refine wp_mono h2 fun k S2 h3 => ?_
    obtain ⟨rfl, hk, h3⟩ := h3
    have e1 : ds.take (i + 1) = ds.take i ++ [d] := by rw [List.take_add_one, h1]; rfl
    cases k with
    | true =>
      rw [if_pos rfl]
      refine wp_mono (h3 rfl) fun v S3 h4 => ⟨?_, h4.2⟩
      rw [h4.1, e1, List.filter_append, List.map_append]
      simp [← hk]
    | false =>
      rw [if_neg Bool.false_ne_true]
      refine ⟨?_, rfl⟩
      rw [e1, List.filter_append, List.map_append]
      simp [← hk]
  · obtain ⟨rfl, rfl⟩ := h
    rw [List.take_length]
    exact hend
end
end Mp
set_option Elab.async false
set_option linter.all false
set_option maxRecDepth 100000
set_option maxHeartbeats 1000000
namespace Mp
open PySem L2

/-! ### expressions that leave the store as it is -/
mutual
def pu : E → Sl → Sto → Option D
  | .loc i, σ, S => match σ[i]? with
    | some (some d) => some d
    | _ => none
  | .cst d, _, _ => some d
  | .bin o a b, σ, S => (pu a σ S).bind fun x => (pu b σ S).bind fun y => binP S o x y
  | .neg a, σ, S => (pu a σ S).bind fun x => match x with
    | .int i => some (.int (-i))
    | _ => none
  | .not_ a, σ, S => (pu a σ S).bind fun x => (truP S x).map fun k => .bl (!k)
  | .cmp o a b, σ, S => (pu a σ S).bind fun x => (pu b σ S).bind fun y => (cmpP S o x y).map D.bl
  | .and_ a b, σ, S => (pu a σ S).bind fun x => (truP S x).bind fun k => if k = true then pu b σ S else some x
  | .or_ a b, σ, S => (pu a σ S).bind fun x => (truP S x).bind fun k => if k = true then some x else pu b σ S
  | .ite c a b, σ, S => (pu c σ S).bind fun x => (truP S x).bind fun k => if k = true then pu a σ S else pu b σ S
  | .tup es, σ, S => (puEs es σ S).bind fun ds => if ds.length ≤ sizeLine then some (.tup ds) else none
  | .lst false es, σ, S => (puEs es σ S).bind fun ds => if ds.length ≤ sizeLine then some (.lst ds) else none
  | .ix a b, σ, S => (pu a σ S).bind fun x => (pu b σ S).bind fun y => ixP S x y
  | .fld a f, σ, S => (pu a σ S).bind fun x => fldP S x f
  | .bi b es, σ, S => (puEs es σ S).bind fun ds => biP S b ds
  | .bf false b es, σ, S => (puEs es σ S).bind fun ds => (bfP S b ds).map D.lst
  | .isi ts a, σ, S => (pu a σ S).bind fun x => (isis S x ts).map D.bl
  | .sl a lo hi, σ, S => (pu a σ S).bind fun x => (puO lo σ S).bind fun l => (puO hi σ S).bind fun h => slP S x l h
  | .dictOf false a, σ, S => (pu a σ S).bind fun x => ((lstOf S x).bind pairsOf).map fun kvs => .dk (mergeD [] kvs)
  | _, _, _ => none
def puEs : Es → Sl → Sto → Option (List D)
  | .nil, _, _ => some []
  | .cons e r, σ, S => (pu e σ S).bind fun d => (puEs r σ S).map fun ds => d :: ds
def puO : Eo → Sl → Sto → Option (Option Int)
  | .no, _, _ => some none
  | .yes e, σ, S => (pu e σ S).bind fun x => match x with
    | .int i => some (some i)
    | _ => none
end
theorem ok_bind {α β : Type} {m : M α} {f : α → M β} {S S1 : Sto} {a : α} {r : R β} (e : m S = .ok a S1) (h : f a S1 = r) : (m >>= f) S = r := by
  show M.bind m f S = r
  unfold M.bind
  rw [e]
  exact h
theorem ok_rd {α : Type} {f : Sto → Option α} {S : Sto} {a : α} (e : f S = some a) : rd f S = .ok a S := by unfold rd; rw [e]
theorem ok_test {m : M D} {S : Sto} {d : D} {k : Bool} (e : m S = .ok d S) (h : truP S d = some k) : test m S = .ok k S := ok_bind e (ok_rd h)
mutual
theorem pu_ok (P : En) : ∀ (e : E) (σ : Sl) (S : Sto) (d : D), pu e σ S = some d → evE P e σ S = .ok d S
  | .loc i, σ, S, d, h => by
    simp only [pu] at h
    simp only [evE]
    split at h
    · rename_i d' e
      cases h
      rw [e]
      rfl
    · cases h
  | .cst d', σ, S, d, h => by
    simp only [pu, Option.some.injEq] at h
    subst h
    simp only [evE]
    rfl
  | .bin o a b, σ, S, d, h => by
    simp only [pu] at h
    obtain ⟨x, h1, h⟩ := Option.bind_eq_some_iff.mp h
    obtain ⟨y, h2, h⟩ := Option.bind_eq_some_iff.mp h
    simp only [evE]
    exact ok_bind (pu_ok P a σ S x h1) (ok_bind (pu_ok P b σ S y h2) (ok_rd h))
  | .neg a, σ, S, d, h => by
    simp only [pu] at h
    obtain ⟨x, h1, h⟩ := Option.bind_eq_some_iff.mp h
    simp only [evE]
    refine ok_bind (pu_ok P a σ S x h1) ?_
    split at h
    · cases h; rfl
    · cases h
  | .not_ a, σ, S, d, h => by
    simp only [pu] at h
    obtain ⟨x, h1, h⟩ := Option.bind_eq_some_iff.mp h
    obtain ⟨k, h2, rfl⟩ := Option.map_eq_some_iff.mp h
    simp only [evE]
    exact ok_bind (ok_test (pu_ok P a σ S x h1) h2) rfl
  | .cmp o a b, σ, S, d, h => by
    simp only [pu] at h
    obtain ⟨x, h1, h⟩ := Option.bind_eq_some_iff.mp h
    obtain ⟨y, h2, h⟩ := Option.bind_eq_some_iff.mp h
    obtain ⟨k, h3, rfl⟩ := Option.map_eq_some_iff.mp h
    simp only [evE]
    exact ok_bind (pu_ok P a σ S x h1) (ok_bind (pu_ok P b σ S y h2) (ok_bind (ok_rd h3) rfl))
  | .and_ a b, σ, S, d, h => by
    simp only [pu] at h
    obtain ⟨x, h1, h⟩ := Option.bind_eq_some_iff.mp h
    obtain ⟨k, h2, h⟩ := Option.bind_eq_some_iff.mp h
    simp only [evE]
    refine ok_bind (pu_ok P a σ S x h1) (ok_bind (ok_rd h2) ?_)
    cases k with
    | true => rw [if_pos rfl] at h ⊢; exact pu_ok P b σ S d h
    | false => rw [if_neg Bool.false_ne_true] at h ⊢; cases h; rfl
  | .or_ a b, σ, S, d, h => by
    simp only [pu] at h
    obtain ⟨x, h1, h⟩ := Option.bind_eq_some_iff.mp h
    obtain ⟨k, h2, h⟩ := Option.bind_eq_some_iff.mp h
    simp only [evE]
    refine ok_bind (pu_ok P a σ S x h1) (ok_bind (ok_rd h2) ?_)
    cases k with
    | true => rw [if_pos rfl] at h ⊢; cases h; rfl
    | false => rw [if_neg Bool.false_ne_true] at h ⊢; exact pu_ok P b σ S d h
  | .ite c a b, σ, S, d, h => by
    simp only [pu] at h
    obtain ⟨x, h1, h⟩ := Option.bind_eq_some_iff.mp h
    obtain ⟨k, h2, h⟩ := Option.bind_eq_some_iff.mp h
    simp only [evE]
    refine ok_bind (ok_test (pu_ok P c σ S x h1) h2) ?_
    cases k with
    | true => rw [if_pos rfl] at h ⊢; exact pu_ok P a σ S d h
    | false => rw [if_neg Bool.false_ne_true] at h ⊢; exact pu_ok P b σ S d h
  | .tup es, σ, S, d, h => by
    simp only [pu] at h
    obtain ⟨x, h1, h⟩ := Option.bind_eq_some_iff.mp h
    simp only [evE]
    refine ok_bind (puEs_ok P es σ S x h1) ?_
    split at h
    · rename_i hl
      cases h
      exact ok_bind (a := x) (by unfold capped; rw [if_pos hl]; rfl) rfl
    · cases h
  | .lst false es, σ, S, d, h => by
    simp only [pu] at h
    obtain ⟨x, h1, h⟩ := Option.bind_eq_some_iff.mp h
    simp only [evE]
    refine ok_bind (puEs_ok P es σ S x h1) ?_
    split at h
    · rename_i hl
      cases h
      exact ok_bind (a := x) (by unfold capped; rw [if_pos hl]; rfl) rfl
    · cases h
  | .ix a b, σ, S, d, h => by
    simp only [pu] at h
    obtain ⟨x, h1, h⟩ := Option.bind_eq_some_iff.mp h
    obtain ⟨y, h2, h⟩ := Option.bind_eq_some_iff.mp h
    simp only [evE]
    exact ok_bind (pu_ok P a σ S x h1) (ok_bind (pu_ok P b σ S y h2) (ok_rd h))
  | .fld a f, σ, S, d, h => by
    simp only [pu] at h
    obtain ⟨x, h1, h⟩ := Option.bind_eq_some_iff.mp h
    simp only [evE]
    exact ok_bind (pu_ok P a σ S x h1) (ok_rd h)
  | .bi b es, σ, S, d, h => by
    simp only [pu] at h
    obtain ⟨x, h1, h⟩ := Option.bind_eq_some_iff.mp h
    simp only [evE]
    exact ok_bind (puEs_ok P es σ S x h1) (ok_rd h)
  | .bf false b es, σ, S, d, h => by
    simp only [pu] at h
    obtain ⟨x, h1, h⟩ := Option.bind_eq_some_iff.mp h
    obtain ⟨k, h2, rfl⟩ := Option.map_eq_some_iff.mp h
    simp only [evE]
    exact ok_bind (puEs_ok P es σ S x h1) (ok_bind (ok_rd h2) rfl)
  | .isi ts a, σ, S, d, h => by
    simp only [pu] at h
    obtain ⟨x, h1, h⟩ := Option.bind_eq_some_iff.mp h
    simp only [evE]
    exact ok_bind (pu_ok P a σ S x h1) (ok_rd h)
  | .sl a lo hi, σ, S, d, h => by
    simp only [pu] at h
    obtain ⟨x, h1, h⟩ := Option.bind_eq_some_iff.mp h
    obtain ⟨y, h2, h⟩ := Option.bind_eq_some_iff.mp h
    obtain ⟨z, h3, h⟩ := Option.bind_eq_some_iff.mp h
    simp only [evE]
    exact ok_bind (pu_ok P a σ S x h1) (ok_bind (puO_ok P lo σ S y h2) (ok_bind (puO_ok P hi σ S z h3) (ok_rd h)))
  | .dictOf false a, σ, S, d, h => by
    simp only [pu] at h
    obtain ⟨x, h1, h⟩ := Option.bind_eq_some_iff.mp h
    obtain ⟨k, h2, rfl⟩ := Option.map_eq_some_iff.mp h
    simp only [evE]
    exact ok_bind (pu_ok P a σ S x h1) (ok_bind (ok_rd h2) rfl)
  | .catM .., _, _, _, h | .glb _, _, _, _, h | .chn .., _, _, _, h | .lst true _, _, _, _, h | .dnK, _, _, _, h | .dnT, _, _, _, h | .disp .., _, _, _, h | .call .., _, _, _, h | .meth .., _, _, _, h | .new .., _, _, _, h | .bf true .., _, _, _, h | .bm .., _, _, _, h | .comp .., _, _, _, h | .comp2 .., _, _, _, h | .dictOf true _, _, _, _, h => by
    simp only [pu] at h; cases h
theorem puEs_ok (P : En) : ∀ (es : Es) (σ : Sl) (S : Sto) (ds : List D), puEs es σ S = some ds → evEs P es σ S = .ok ds S
  | .nil, σ, S, ds, h => by
    simp only [puEs, Option.some.injEq] at h
    subst h
    simp only [evEs]
    rfl
  | .cons e r, σ, S, ds, h => by
    simp only [puEs] at h
    obtain ⟨x, h1, h⟩ := Option.bind_eq_some_iff.mp h
    obtain ⟨y, h2, rfl⟩ := Option.map_eq_some_iff.mp h
    simp only [evEs]
    exact ok_bind (pu_ok P e σ S x h1) (ok_bind (puEs_ok P r σ S y h2) rfl)
theorem puO_ok (P : En) : ∀ (e : Eo) (σ : Sl) (S : Sto) (o : Option Int), puO e σ S = some o → evI P e σ S = .ok o S
  | .no, σ, S, o, h => by
    simp only [puO, Option.some.injEq] at h
    subst h
    simp only [evI]
    rfl
  | .yes e, σ, S, o, h => by
    simp only [puO] at h
    obtain ⟨x, h1, h⟩ := Option.bind_eq_some_iff.mp h
    simp only [evI]
    refine ok_bind (pu_ok P e σ S x h1) ?_
    split at h
    · cases h; rfl
    · cases h
end
section
variable {P : En} {e c o i : E} {σ : Sl} {S : Sto}
theorem wp_pu {Q : D → Sto → Prop} {d : D} (h : pu e σ S = some d) (q : Q d S) : wp (evE P e σ) Q S := ⟨d, S, pu_ok P e σ S d h, q⟩
theorem wp_puEs {es : Es} {Q : List D → Sto → Prop} {ds : List D} (h : puEs es σ S = some ds) (q : Q ds S) : wp (evEs P es σ) Q S := ⟨ds, S, puEs_ok P es σ S ds h, q⟩
theorem wp_puT {Q : Bool → Sto → Prop} {d : D} {k : Bool} (h : pu e σ S = some d) (ht : truP S d = some k) (q : Q k S) : wp (test (evE P e σ)) Q S := ⟨k, S, ok_test (pu_ok P e σ S d h) ht, q⟩
/-! ### statements -/
abbrev K2 := Fl → Sl → Sto → Prop
def wpB (P : En) (b : Ss) (σ : Sl) (K : K2) (S : Sto) : Prop := wp (evB P b σ) (fun r S' => K r.1 r.2 S') S
def wpS (P : En) (s : Sm) (σ : Sl) (K : K2) (S : Sto) : Prop := wp (evS P s σ) (fun r S' => K r.1 r.2 S') S
def thenB (P : En) (r : Ss) (K : K2) : K2 := fun f σ S => match f with
  | .nx => wpB P r σ K S
  | _ => K f σ S
theorem b_nil {K : K2} (h : K .nx σ S) : wpB P .nil σ K S := by
  unfold wpB
  simp only [evB]
  exact wp_pure.mpr h
theorem b_cons {s : Sm} {r : Ss} {K : K2} (h : wpS P s σ (thenB P r K) S) : wpB P (.cons s r) σ K S := by
  unfold wpB
  simp only [evB]
  rw [wp_bind]
  refine wp_mono h fun x S1 h1 => ?_
  obtain ⟨f, σ1⟩ := x
  cases f with
  | nx => exact h1
  | bk => exact wp_pure.mpr h1
  | ct => exact wp_pure.mpr h1
  | rt d => exact wp_pure.mpr h1
theorem s_ret {e : E} {K : K2} (h : wp (evE P e σ) (fun d S' => K (.rt d) σ S') S) : wpS P (.ret (.yes e)) σ K S := by
  unfold wpS
  simp only [evS]
  rw [wp_bind]
  exact wp_mono h fun d S1 h1 => wp_pure.mpr h1
theorem s_asg {t : T} {K : K2} (h : wp (evE P e σ) (fun d S1 => wp (evT P t d σ) (fun σ1 S2 => K .nx σ1 S2) S1) S) : wpS P (.asg t e) σ K S := by
  unfold wpS
  simp only [evS]
  rw [wp_bind]
  exact wp_mono h fun d S1 h1 => wp_bind.mpr (wp_mono h1 fun σ1 S2 h2 => wp_pure.mpr h2)
theorem s_ex {K : K2} (h : wp (evE P e σ) (fun _ S1 => K .nx σ S1) S) : wpS P (.ex e) σ K S := by
  unfold wpS
  simp only [evS]
  rw [wp_bind]
  exact wp_mono h fun d S1 h1 => wp_pure.mpr h1
theorem s_if {a b : Ss} {K : K2} (h : wp (test (evE P c σ)) (fun k S1 => if k = true then wpB P a σ K S1 else wpB P b σ K S1) S) : wpS P (.if_ c a b) σ K S := by
  unfold wpS
  simp only [evS]
  rw [wp_bind]
  refine wp_mono h fun k S1 h1 => ?_
  cases k with
  | true => rw [if_pos rfl] at h1 ⊢; exact h1
  | false => rw [if_neg Bool.false_ne_true] at h1 ⊢; exact h1
theorem s_ifP {a b : Ss} {K : K2} {d : D} {k : Bool} (h : pu c σ S = some d) (ht : truP S d = some k) (h1 : k = true → wpB P a σ K S) (h2 : k = false → wpB P b σ K S) : wpS P (.if_ c a b) σ K S := by
  refine s_if (wp_puT h ht ?_)
  cases k with
  | true => rw [if_pos rfl]; exact h1 rfl
  | false => rw [if_neg Bool.false_ne_true]; exact h2 rfl
theorem t_nm {d : D} {j : Nat} {Q : Sl → Sto → Prop} (h : Q (σ.set j (some d)) S) : wp (evT P (.nm j) d σ) Q S := by
  simp only [evT]
  exact wp_pure.mpr h
theorem t_sub {d x y : D} {S' : Sto} {Q : Sl → Sto → Prop} (h1 : pu o σ S = some x) (h2 : pu i σ S = some y) (h3 : setP S x y d = some S') (h : Q σ S') : wp (evT P (.sub o i) d σ) Q S := by
  simp only [evT]
  rw [wp_bind]
  refine wp_pu h1 ?_
  rw [wp_bind]
  refine wp_pu h2 ?_
  rw [wp_bind, wp_stp]
  exact ⟨S', h3, wp_pure.mpr h⟩
/-! ### statements in a row -/
variable {r : Ss} {K : K2}
theorem b_end (h : wpB P r σ K S) : wpB P .nil σ (thenB P r K) S := b_nil h
theorem b_asg {t : T} (h : wp (evE P e σ) (fun d S1 => wp (evT P t d σ) (fun σ1 S2 => wpB P r σ1 K S2) S1) S) : wpB P (.cons (.asg t e) r) σ K S := b_cons (s_asg h)
/-- name = a plain expression -/
theorem b_set {j : Nat} (d : D) (h : pu e σ S = some d) (q : wpB P r (σ.set j (some d)) K S) : wpB P (.cons (.asg (.nm j) e) r) σ K S := b_asg (wp_pu h (t_nm q))
/-- o[i] = a plain expression -/
theorem b_sub (d x y : D) (S' : Sto) (h : pu e σ S = some d) (h1 : pu o σ S = some x) (h2 : pu i σ S = some y) (h3 : setP S x y d = some S') (q : wpB P r σ K S') : wpB P (.cons (.asg (.sub o i) e) r) σ K S := b_asg (wp_pu h (t_sub h1 h2 h3 q))
theorem b_ret (h : wp (evE P e σ) (fun d S' => K (.rt d) σ S') S) : wpB P (.cons (.ret (.yes e)) r) σ K S := b_cons (s_ret (wp_mono h fun _ _ q => q))
theorem b_retP (d : D) (h : pu e σ S = some d) (q : K (.rt d) σ S) : wpB P (.cons (.ret (.yes e)) r) σ K S := b_ret (wp_pu h q)
theorem b_ex (h : wp (evE P e σ) (fun _ S1 => wpB P r σ K S1) S) : wpB P (.cons (.ex e) r) σ K S := b_cons (s_ex h)
theorem b_if {a b : Ss} (h : wp (test (evE P c σ)) (fun k S1 => if k = true then wpB P a σ (thenB P r K) S1 else wpB P b σ (thenB P r K) S1) S) : wpB P (.cons (.if_ c a b) r) σ K S := b_cons (s_if h)
theorem b_ifP {a b : Ss} (d : D) (k : Bool) (h : pu c σ S = some d) (ht : truP S d = some k) (h1 : k = true → wpB P a σ (thenB P r K) S) (h2 : k = false → wpB P b σ (thenB P r K) S) : wpB P (.cons (.if_ c a b) r) σ K S := b_cons (s_ifP h ht h1 h2)
/-- .. when the test's answer is known -/
theorem b_ifT {a b : Ss} (d : D) (h : pu c σ S = some d) (ht : truP S d = some true) (h1 : wpB P a σ (thenB P r K) S) : wpB P (.cons (.if_ c a b) r) σ K S := b_cons (s_ifP h ht (fun _ => h1) fun z => (by cases z))
theorem b_ifF {a b : Ss} (d : D) (h : pu c σ S = some d) (ht : truP S d = some false) (h1 : wpB P b σ (thenB P r K) S) : wpB P (.cons (.if_ c a b) r) σ K S := b_cons (s_ifP h ht (fun z => (by cases z)) fun _ => h1)
end
end Mp
set_option Elab.async false
set_option linter.all false
set_option maxRecDepth 100000
set_option maxHeartbeats 1000000
namespace Mp
open PySem L2
section
variable {S : Sto} {i j : Int} {n : Nat} {xs ys : List D} {x y : D} {s t : Str} {b c : Bool}
/-! ### what operations give, case by case -/
@[simp] theorem bin_add : binP S .add (.int i) (.int j) = some (.int (i + j)) := rfl
@[simp] theorem bin_sub : binP S .sub (.int i) (.int j) = some (.int (i - j)) := rfl
theorem bin_mulL (h : small i = true) : binP S .mul (.int i) (.int j) = some (.int (i * j)) := by simp [binP, h]
theorem bin_mulR (h : small j = true) : binP S .mul (.int i) (.int j) = some (.int (i * j)) := by simp [binP, h]
theorem bin_fdiv (h : 0 < j) (h2 : j < 2 ^ 64) : binP S .fdiv (.int i) (.int j) = some (.int (i / j)) := by
  show (if 0 < j ∧ j < 2 ^ 64 then some (D.int (i / j)) else if j ≠ 0 ∧ j.natAbs < 1073741824 then some (.int (i.fdiv j)) else none) = _
  rw [if_pos ⟨h, h2⟩]
theorem bin_mod (h : 0 < j) : binP S .mod (.int i) (.int j) = some (.int (i % j)) := by
  show (if 0 < j then some (D.int (i % j)) else if j ≠ 0 then some (.int (i.fmod j)) else none) = _
  rw [if_pos h]
theorem bin_pow (h : small i = true) (h1 : 0 ≤ j) (h2 : j ≤ 1000000) : binP S .pow (.int i) (.int j) = some (.int (i ^ j.toNat)) := by
  show (if small i = true ∧ 0 ≤ j ∧ j ≤ 1000000 then some (D.int (i ^ j.toNat)) else none) = _
  rw [if_pos ⟨h, h1, h2⟩]
theorem bin_addT (h : xs.length + ys.length ≤ sizeLine) : binP S .add (.tup xs) (.tup ys) = some (.tup (xs ++ ys)) := by
  show (if xs.length + ys.length ≤ sizeLine then some (D.tup (xs ++ ys)) else none) = _
  rw [if_pos h]
theorem bin_addL (h : lstOf S x = some xs) (h2 : lstOf S y = some ys) (hl : xs.length + ys.length ≤ sizeLine) : binP S .add x y = some (.lst (xs ++ ys)) := by
  have hx : (∃ l, x = .lst l) ∨ ∃ m, x = .hd m := by
    cases x <;> simp [lstOf] at h
    · exact .inl ⟨_, rfl⟩
    · exact .inr ⟨_, rfl⟩
  have e : binP S .add x y = (match lstOf S x, lstOf S y with
    | some xs, some ys => if xs.length + ys.length ≤ sizeLine then some (.lst (xs ++ ys)) else none
    | _, _ => none) := by
    rcases hx with ⟨l, rfl⟩ | ⟨m, rfl⟩ <;> rfl
  rw [e, h, h2]
  exact if_pos hl
theorem bin_rep (h : lstOf S x = some xs) (h1 : 0 ≤ i) (h2 : i < 2 ^ 62) (hl : xs.length * i.toNat ≤ sizeLine) : binP S .mul x (.int i) = some (.lst (List.replicate i.toNat xs).flatten) := by
  have hx : (∃ l, x = .lst l) ∨ ∃ m, x = .hd m := by
    cases x <;> simp [lstOf] at h
    · exact .inl ⟨_, rfl⟩
    · exact .inr ⟨_, rfl⟩
  have e : binP S .mul x (.int i) = (match lstOf S x with
    | some xs => if -(2 ^ 62) ≤ i ∧ i < 2 ^ 62 ∧ xs.length * i.toNat ≤ sizeLine then some (.lst (List.replicate i.toNat xs).flatten) else none
    | none => none) := by
    rcases hx with ⟨l, rfl⟩ | ⟨m, rfl⟩ <;> rfl
  rw [e, h]
  exact if_pos ⟨by omega, h2, hl⟩
@[simp] theorem cmp_lt : cmpP S .lt (.int i) (.int j) = some (decide (i < j)) := rfl
@[simp] theorem cmp_le : cmpP S .le (.int i) (.int j) = some (decide (i ≤ j)) := rfl
@[simp] theorem cmp_gt : cmpP S .gt (.int i) (.int j) = some (decide (j < i)) := rfl
@[simp] theorem cmp_ge : cmpP S .ge (.int i) (.int j) = some (decide (j ≤ i)) := rfl
@[simp] theorem cmp_eq : cmpP S .eq (.int i) (.int j) = some (decide (i = j)) := rfl
@[simp] theorem cmp_ne : cmpP S .ne (.int i) (.int j) = some (!decide (i = j)) := rfl
@[simp] theorem cmp_eqs : cmpP S .eq (.str s) (.str t) = some (decide (s = t)) := rfl
@[simp] theorem cmp_nes : cmpP S .ne (.str s) (.str t) = some (!decide (s = t)) := rfl
@[simp] theorem cmp_eqb : cmpP S .eq (.bl b) (.bl c) = some (decide (b = c)) := rfl
@[simp] theorem cmp_neb : cmpP S .ne (.bl b) (.bl c) = some (!decide (b = c)) := rfl
@[simp] theorem cmp_isN : cmpP S .is_ .non .non = some true := rfl
@[simp] theorem cmp_isI : cmpP S .is_ (.int i) .non = some false := rfl
@[simp] theorem cmp_isS : cmpP S .is_ (.str s) .non = some false := rfl
@[simp] theorem cmp_isB : cmpP S .is_ (.bl b) .non = some false := rfl
@[simp] theorem cmp_isT : cmpP S .is_ (.tup xs) .non = some false := rfl
@[simp] theorem cmp_isL : cmpP S .is_ (.lst xs) .non = some false := rfl
@[simp] theorem cmp_isH : cmpP S .is_ (.hd n) .non = some false := rfl
@[simp] theorem cmp_inN : cmpP S .isnot .non .non = some false := rfl
@[simp] theorem cmp_inI : cmpP S .isnot (.int i) .non = some true := rfl
@[simp] theorem cmp_inS : cmpP S .isnot (.str s) .non = some true := rfl
@[simp] theorem cmp_inT : cmpP S .isnot (.tup xs) .non = some true := rfl
@[simp] theorem cmp_inL : cmpP S .isnot (.lst xs) .non = some true := rfl
@[simp] theorem cmp_inH : cmpP S .isnot (.hd n) .non = some true := rfl
@[simp] theorem ix_tup : ixP S (.tup xs) (.int i) = atI xs i := rfl
@[simp] theorem ix_lst : ixP S (.lst xs) (.int i) = atI xs i := rfl
theorem ix_hd (h : S[n]? = some (.lst xs)) : ixP S (.hd n) (.int i) = atI xs i := by simp only [ixP, h]
@[simp] theorem bi_len : biP S .len [x] = (lenP S x).map fun n => .int (n : Nat) := rfl
@[simp] theorem len_tup : lenP S (.tup xs) = some xs.length := rfl
@[simp] theorem len_lst : lenP S (.lst xs) = some xs.length := rfl
theorem len_hd (h : S[n]? = some (.lst xs)) : lenP S (.hd n) = some xs.length := by simp only [lenP, h]
@[simp] theorem bi_int : biP S .int [.int i] = some (.int i) := rfl
@[simp] theorem bi_intB : biP S .int [.bl b] = some (.int (if b then 1 else 0)) := rfl
@[simp] theorem bi_max : biP S .max2 [.int i, .int j] = some (.int (if j > i then j else i)) := rfl
@[simp] theorem bi_min : biP S .min2 [.int i, .int j] = some (.int (if j < i then j else i)) := rfl
@[simp] theorem bi_tup : biP S .tuple [x] = (seqOf S x).map .tup := rfl
@[simp] theorem seq_tup : seqOf S (.tup xs) = some xs := rfl
@[simp] theorem seq_lst : seqOf S (.lst xs) = some xs := rfl
theorem seq_hd (h : S[n]? = some (.lst xs)) : seqOf S (.hd n) = some xs := by simp only [seqOf, h]
@[simp] theorem lst_lst : lstOf S (.lst xs) = some xs := rfl
theorem lst_hd (h : S[n]? = some (.lst xs)) : lstOf S (.hd n) = some xs := by simp only [lstOf, h]
@[simp] theorem tru_non : truP S .non = some false := rfl
@[simp] theorem tru_bl : truP S (.bl b) = some b := rfl
@[simp] theorem tru_int : truP S (.int i) = some (i != 0) := rfl
@[simp] theorem tru_tup : truP S (.tup xs) = some (!xs.isEmpty) := rfl
@[simp] theorem tru_lst : truP S (.lst xs) = some (!xs.isEmpty) := rfl
theorem tru_hd (h : S[n]? = some (.lst xs)) : truP S (.hd n) = some (!xs.isEmpty) := by simp only [truP, h]
theorem set_hd {v : D} {j : Nat} (h : S[n]? = some (.lst xs)) (hj : ixN xs.length i = some j) : setP S (.hd n) (.int i) v = some (S.set n (.lst (xs.set j v))) := by simp only [setP, h, hj]
/-! ### places -/
@[simp] theorem at0 : atI (x :: xs) 0 = some x := by
  have h : ixN (x :: xs).length 0 = some 0 := by
    unfold ixN
    rw [if_pos (Int.le_refl 0), if_pos (by simp only [List.length_cons]; omega)]
    rfl
  unfold atI
  rw [h]
  rfl
theorem atI_nat {k : Nat} {d : D} (h : xs[k]? = some d) : atI xs (k : Int) = some d := by
  have hl := (List.getElem?_eq_some_iff.mp h).1
  have h1 : ixN xs.length (k : Int) = some k := by
    unfold ixN
    rw [if_pos (by omega), if_pos (by omega)]
    simp
  unfold atI
  rw [h1]
  exact h
@[simp] theorem at1 {y : D} : atI (x :: y :: xs) 1 = some y := atI_nat (k := 1) rfl
@[simp] theorem at2 {y z : D} : atI (x :: y :: z :: xs) 2 = some z := atI_nat (k := 2) rfl
@[simp] theorem at3 {y z u : D} : atI (x :: y :: z :: u :: xs) 3 = some u := atI_nat (k := 3) rfl
@[simp] theorem at4 {y z u v : D} : atI (x :: y :: z :: u :: v :: xs) 4 = some v := atI_nat (k := 4) rfl
@[simp] theorem at5 {y z u v w : D} : atI (x :: y :: z :: u :: v :: w :: xs) 5 = some w := atI_nat (k := 5) rfl
theorem atI_of {i : Int} (h0 : 0 ≤ i) (h1 : i < xs.length) : ∃ x, atI xs i = some x ∧ x ∈ xs := by
  have hl : i.toNat < xs.length := by omega
  refine ⟨xs[i.toNat], ?_, List.getElem_mem hl⟩
  have h := atI_nat (xs := xs) (k := i.toNat) (d := xs[i.toNat]) (List.getElem?_eq_getElem hl)
  have e : (i.toNat : Int) = i := by omega
  rw [e] at h
  exact h
theorem atI_last (h : xs ≠ []) : ∃ x, atI xs (-1) = some x ∧ x ∈ xs := by
  have hl : 0 < xs.length := List.length_pos_iff.mpr h
  have hl' : xs.length - 1 < xs.length := by omega
  refine ⟨xs[xs.length - 1], ?_, List.getElem_mem hl'⟩
  unfold atI ixN
  rw [if_neg (by omega), if_pos (by omega)]
  have e : ((-1 : Int) + xs.length).toNat = xs.length - 1 := by omega
  simp only [e, Option.bind_some]
  exact List.getElem?_eq_getElem hl'
end
end Mp
set_option Elab.async false
set_option linter.all false
set_option maxRecDepth 100000
set_option maxHeartbeats 1000000
namespace Mp
open PySem L2
section
variable {P : En} {σ : Sl} {S : Sto} {a b c e : E} {es : Es} {Q : D → Sto → Prop}
/-! ### expressions, taken apart -/
@[simp] theorem we_loc {i : Nat} : wp (evE P (.loc i) σ) Q S ↔ ∃ d, σ[i]? = some (some d) ∧ Q d S := by
  simp only [evE]
  rcases h : σ[i]? with _ | _ | d
  · simp
  · simp
  · simp
@[simp] theorem we_cst {d : D} : wp (evE P (.cst d) σ) Q S ↔ Q d S := by simp only [evE, wp_pure]
@[simp] theorem we_bin {o : Op2} : wp (evE P (.bin o a b) σ) Q S ↔ wp (evE P a σ) (fun x S1 => wp (evE P b σ) (fun y S2 => ∃ d, binP S2 o x y = some d ∧ Q d S2) S1) S := by simp only [evE, wp_bind, wp_rd]
@[simp] theorem we_catM : wp (evE P (.catM a b) σ) Q S ↔ wp (evE P a σ) (fun x S1 => wp (evE P b σ) (fun y S2 => ∃ zs, catP S2 x y = some zs ∧ Q (.hd S2.length) (S2 ++ [.lst zs])) S1) S := by simp only [evE, wp_bind, wp_rd, wp_alloc]
@[simp] theorem we_not : wp (evE P (.not_ a) σ) Q S ↔ wp (evE P a σ) (fun d S1 => ∃ k, truP S1 d = some k ∧ Q (.bl (!k)) S1) S := by simp only [evE, wp_bind, wp_test, wp_pure]
@[simp] theorem we_cmp {o : Cop} : wp (evE P (.cmp o a b) σ) Q S ↔ wp (evE P a σ) (fun x S1 => wp (evE P b σ) (fun y S2 => ∃ k, cmpP S2 o x y = some k ∧ Q (.bl k) S2) S1) S := by simp only [evE, wp_bind, wp_rd, wp_pure]
theorem we_and : wp (evE P (.and_ a b) σ) Q S ↔ wp (evE P a σ) (fun x S1 => ∃ k, truP S1 x = some k ∧ if k = true then wp (evE P b σ) Q S1 else Q x S1) S := by
  simp only [evE, wp_bind, wp_rd]
  constructor
  · rintro ⟨x, S1, e, k, h1, h2⟩
    refine ⟨x, S1, e, k, h1, ?_⟩
    cases k <;> simpa using h2
  · rintro ⟨x, S1, e, k, h1, h2⟩
    refine ⟨x, S1, e, k, h1, ?_⟩
    cases k <;> simpa using h2
theorem we_or : wp (evE P (.or_ a b) σ) Q S ↔ wp (evE P a σ) (fun x S1 => ∃ k, truP S1 x = some k ∧ if k = true then Q x S1 else wp (evE P b σ) Q S1) S := by
  simp only [evE, wp_bind, wp_rd]
  constructor
  · rintro ⟨x, S1, e, k, h1, h2⟩
    refine ⟨x, S1, e, k, h1, ?_⟩
    cases k <;> simpa using h2
  · rintro ⟨x, S1, e, k, h1, h2⟩
    refine ⟨x, S1, e, k, h1, ?_⟩
    cases k <;> simpa using h2
theorem we_ite : wp (evE P (.ite c a b) σ) Q S ↔ wp (evE P c σ) (fun x S1 => ∃ k, truP S1 x = some k ∧ if k = true then wp (evE P a σ) Q S1 else wp (evE P b σ) Q S1) S := by
  simp only [evE, wp_bind, wp_test]
  constructor
  · rintro ⟨x, S1, e, k, h1, h2⟩
    refine ⟨x, S1, e, k, h1, ?_⟩
    cases k <;> simpa using h2
  · rintro ⟨x, S1, e, k, h1, h2⟩
    refine ⟨x, S1, e, k, h1, ?_⟩
    cases k <;> simpa using h2
@[simp] theorem we_tup : wp (evE P (.tup es) σ) Q S ↔ wp (evEs P es σ) (fun ds S1 => ds.length ≤ sizeLine ∧ Q (.tup ds) S1) S := by simp only [evE, wp_bind, wp_capped, wp_pure]
@[simp] theorem we_lstF : wp (evE P (.lst false es) σ) Q S ↔ wp (evEs P es σ) (fun ds S1 => ds.length ≤ sizeLine ∧ Q (.lst ds) S1) S := by simp [evE]
@[simp] theorem we_lstT : wp (evE P (.lst true es) σ) Q S ↔ wp (evEs P es σ) (fun ds S1 => ds.length ≤ sizeLine ∧ Q (.hd S1.length) (S1 ++ [.lst ds])) S := by simp [evE]
@[simp] theorem we_dnK : wp (evE P .dnK σ) Q S ↔ Q (.hd S.length) (S ++ [.dk []]) := by simp only [evE, wp_alloc]
@[simp] theorem we_ix : wp (evE P (.ix a b) σ) Q S ↔ wp (evE P a σ) (fun x S1 => wp (evE P b σ) (fun y S2 => ∃ d, ixP S2 x y = some d ∧ Q d S2) S1) S := by simp only [evE, wp_bind, wp_rd]
@[simp] theorem we_fld {f : Str} : wp (evE P (.fld a f) σ) Q S ↔ wp (evE P a σ) (fun x S1 => ∃ d, fldP S1 x f = some d ∧ Q d S1) S := by simp only [evE, wp_bind, wp_rd]
@[simp] theorem we_call {f : Nat} : wp (evE P (.call f es) σ) Q S ↔ wp (evEs P es σ) (fun ds S1 => wp (P.call f ds) Q S1) S := by simp only [evE, wp_bind]
@[simp] theorem we_bi {o : Bi} : wp (evE P (.bi o es) σ) Q S ↔ wp (evEs P es σ) (fun ds S1 => ∃ d, biP S1 o ds = some d ∧ Q d S1) S := by simp only [evE, wp_bind, wp_rd]
@[simp] theorem we_bf {o : Bf} : wp (evE P (.bf false o es) σ) Q S ↔ wp (evEs P es σ) (fun ds S1 => ∃ ys, bfP S1 o ds = some ys ∧ Q (.lst ys) S1) S := by simp [evE]
@[simp] theorem we_bm {o : Bm} : wp (evE P (.bm o a es) σ) Q S ↔ wp (evE P a σ) (fun x S1 => ∃ u, recvP S1 o x = some u ∧ wp (evEs P es σ) (fun ds S2 => ∃ d S3, bmP S2 o x ds = some (d, S3) ∧ Q d S3) S1) S := by simp only [evE, wp_bind, wp_rd, wp_stpD]
@[simp] theorem we_isi {ts : List Ty} : wp (evE P (.isi ts a) σ) Q S ↔ wp (evE P a σ) (fun x S1 => ∃ k, isis S1 x ts = some k ∧ Q (.bl k) S1) S := by
  simp only [evE, wp_bind, wp_rd, Option.map_eq_some_iff]
  constructor
  · rintro ⟨x, S1, e, _, ⟨k, h, rfl⟩, q⟩; exact ⟨x, S1, e, k, h, q⟩
  · rintro ⟨x, S1, e, k, h, q⟩; exact ⟨x, S1, e, _, ⟨k, h, rfl⟩, q⟩
@[simp] theorem we_comp {own : List Nat} {t : T} {it : Mp.It} {cc : Eo} : wp (evE P (.comp false own t it cc e) σ) Q S ↔ wp (evIt P it σ) (fun src S1 => wp (atCap src P.fuel fun k => loopC src (fun x => evT P t x (wipeD σ own)) (fun σ => evC P cc σ) (fun σ => evE P e σ) k 0) (fun ds S2 => ds.length ≤ sizeLine ∧ Q (.lst ds) S2) S1) S := by simp [evE]
@[simp] theorem wes_nil {Q : List D → Sto → Prop} : wp (evEs P .nil σ) Q S ↔ Q [] S := by simp only [evEs, wp_pure]
@[simp] theorem wes_cons {Q : List D → Sto → Prop} : wp (evEs P (.cons e es) σ) Q S ↔ wp (evE P e σ) (fun d S1 => wp (evEs P es σ) (fun ds S2 => Q (d :: ds) S2) S1) S := by simp only [evEs, wp_bind, wp_pure]
@[simp] theorem wc_no {Q : Bool → Sto → Prop} : wp (evC P .no σ) Q S ↔ Q true S := by simp only [evC, wp_pure]
@[simp] theorem wc_yes {Q : Bool → Sto → Prop} : wp (evC P (.yes e) σ) Q S ↔ wp (test (evE P e σ)) Q S := by simp only [evC]
theorem wi_rng1 {Q : Src → Sto → Prop} (he : wp (evE P e σ) (fun d S1 => ∃ j, d = .int j ∧ (-(2 ^ 62) ≤ j ∧ j < 2 ^ 62) ∧ Q (.st (rngD 0 j.toNat)) S1) S) : wp (evIt P (.rng (.cons e .nil)) σ) Q S := by
  simp only [evIt, wp_bind, wes_cons, wes_nil]
  refine wp_mono he fun d S1 h1 => ?_
  obtain ⟨j, rfl, h, h1⟩ := h1
  have hr : inR j = true := by
    unfold inR
    rw [Bool.and_eq_true]
    exact ⟨decide_eq_true h.1, decide_eq_true h.2⟩
  simp only [hr, if_true, wp_pure]
  exact h1
theorem wi_seqT {xs : List D} {Q : Src → Sto → Prop} (he : wp (evE P e σ) (fun d S1 => (d = .tup xs ∨ d = .lst xs) ∧ Q (.st xs) S1) S) : wp (evIt P (.seq e) σ) Q S := by
  simp only [evIt, wp_bind]
  refine wp_mono he fun d S1 h1 => ?_
  obtain ⟨h | h, h1⟩ := h1
  · subst h; exact wp_pure.mpr h1
  · subst h; exact wp_pure.mpr h1
theorem wi_seqH {m : Nat} {xs : List D} {Q : Src → Sto → Prop} (he : wp (evE P e σ) (fun d S1 => d = .hd m ∧ S1[m]? = some (.lst xs) ∧ Q (.ha m) S1) S) : wp (evIt P (.seq e) σ) Q S := by
  simp only [evIt, wp_bind]
  refine wp_mono he fun d S1 h1 => ?_
  obtain ⟨rfl, h2, h1⟩ := h1
  simp only [wp_rd, h2]
  exact ⟨_, rfl, h1⟩
theorem wi_enT {xs : List D} {Q : Src → Sto → Prop} (he : wp (evE P e σ) (fun d S1 => (d = .tup xs ∨ d = .lst xs) ∧ Q (.st (enumD 0 xs)) S1) S) : wp (evIt P (.enum e) σ) Q S := by
  simp only [evIt, wp_bind]
  refine wp_mono he fun d S1 h1 => ?_
  obtain ⟨h | h, h1⟩ := h1
  · subst h; exact wp_pure.mpr h1
  · subst h; exact wp_pure.mpr h1
theorem wi_enH {m : Nat} {xs : List D} {Q : Src → Sto → Prop} (he : wp (evE P e σ) (fun d S1 => d = .hd m ∧ S1[m]? = some (.lst xs) ∧ Q (.he m) S1) S) : wp (evIt P (.enum e) σ) Q S := by
  simp only [evIt, wp_bind]
  refine wp_mono he fun d S1 h1 => ?_
  obtain ⟨rfl, h2, h1⟩ := h1
  simp only [wp_rd, h2]
  exact ⟨_, rfl, h1⟩
end
end Mp
namespace Mp
open PySem L2
section
variable {P : En} {σ : Sl} {S : Sto} {o e : E} {r b : Ss} {K : K2}
theorem app_hd {m : Nat} {xs : List D} {d : D} (h : S[m]? = some (.lst xs)) (hz : xs.length < sizeLine) : bmP S .append (.hd m) [d] = some (.non, S.set m (.lst (xs ++ [d]))) := by
  simp only [bmP, h, if_pos hz]
theorem recv_hd {m : Nat} {xs : List D} {o : Bm} (h : S[m]? = some (.lst xs)) : recvP S o (.hd m) = some () := by
  simp only [recvP, lst_hd h, Option.map_some]
theorem then_nx (h : wpB P r σ K S) : thenB P r K .nx σ S := h
/-- o.append(a plain expression) -/
theorem b_app {m : Nat} {xs : List D} (d : D) (ho : pu o σ S = some (.hd m)) (h : S[m]? = some (.lst xs)) (he : pu e σ S = some d) (hz : xs.length < sizeLine) (q : wpB P r σ K (S.set m (.lst (xs ++ [d])))) : wpB P (.cons (.ex (.bm .append o (.cons e .nil))) r) σ K S := by
  refine b_ex ?_
  simp only [we_bm, wes_cons, wes_nil]
  exact wp_pu ho ⟨(), recv_hd h, wp_pu he ⟨.non, _, app_hd h hz, q⟩⟩
/-- o.append([]) -/
theorem b_appN {m : Nat} {xs : List D} (ho : pu o σ S = some (.hd m)) (h : S[m]? = some (.lst xs)) (hz : xs.length < sizeLine) (q : wpB P r σ K ((S ++ [Ob.lst []]).set m (.lst (xs ++ [D.hd S.length])))) : wpB P (.cons (.ex (.bm .append o (.cons (.lst true .nil) .nil))) r) σ K S := by
  refine b_ex ?_
  simp only [we_bm, wes_cons, wes_nil, we_lstT]
  refine wp_pu ho ⟨(), recv_hd h, Nat.zero_le _, .non, _, app_hd (xs := xs) ?_ hz, q⟩
  rw [List.getElem?_append_left (List.getElem?_eq_some_iff.mp h).1]
  exact h
/-- name = [] -/
theorem b_new {j : Nat} (q : wpB P r (σ.set j (some (.hd S.length))) K (S ++ [Ob.lst []])) : wpB P (.cons (.asg (.nm j) (.lst true .nil)) r) σ K S := by
  refine b_asg ?_
  simp only [we_lstT, wes_nil]
  exact ⟨Nat.zero_le _, t_nm q⟩
theorem b_for {t : T} {it : Mp.It} (h : wp (evIt P it σ) (fun src S1 => wp (atCap src P.fuel fun k => loopF src (fun x σ => evT P t x σ) (fun σ => evB P b σ) k 0 σ) (fun x S2 => thenB P r K x.1 x.2 S2) S1) S) : wpB P (.cons (.for_ t it b) r) σ K S := by
  refine b_cons ?_
  unfold wpS
  simp only [evS]
  rw [wp_bind]
  exact wp_mono h fun src S1 h1 => h1
end
end Mp
namespace Mp
open PySem L2
theorem b_ifB {P : En} {σ : Sl} {S : Sto} {c : E} {r a b : Ss} {K : K2} (h : wp (evE P c σ) (fun d S1 => ∃ k, d = .bl k ∧ (k = true → wpB P a σ (thenB P r K) S1) ∧ (k = false → wpB P b σ (thenB P r K) S1)) S) : wpB P (.cons (.if_ c a b) r) σ K S := by
  refine b_if ?_
  rw [wp_test]
  refine wp_mono h fun d S1 h1 => ?_
  obtain ⟨k, rfl, h2, h3⟩ := h1
  refine ⟨k, rfl, ?_⟩
  cases k with
  | true => rw [if_pos rfl]; exact h2 rfl
  | false => rw [if_neg Bool.false_ne_true]; exact h3 rfl
end Mp
set_option Elab.async false
set_option linter.all false
set_option maxRecDepth 100000
set_option maxHeartbeats 4000000
namespace K25
open PySem L2 Mp
def top (i : Nat) : Stmt := PySem.Challenge.pw_runstead_k25_layouts.main.body.getD i (.Pass ⟨0, 0, 0, 0⟩)
abbrev f_blocks_of : Nat := 0
abbrev f_all_statements : Nat := 1
abbrev f_hands_of : Nat := 2
abbrev f_hand_number : Nat := 3
abbrev f_place_block : Nat := 4
abbrev f_numbered : Nat := 5
abbrev f_Layout_init : Nat := 6
abbrev f_Layout_spot : Nat := 7
abbrev f_Layout_statement : Nat := 8
abbrev f_Layout_parts : Nat := 9
abbrev f_start : Nat := 10
abbrev f_fill : Nat := 11
abbrev f_take : Nat := 12
abbrev f_pick : Nat := 13
abbrev f_alike : Nat := 14
abbrev f_expr : Nat := 15
abbrev f_test : Nat := 16
abbrev f_target : Nat := 17
abbrev f_plain : Nat := 18
abbrev f_statement : Nat := 19
abbrev f_block : Nat := 20
abbrev f_many : Nat := 21
abbrev f_process : Nat := 22
abbrev f_program : Nat := 23
abbrev f_numbers : Nat := 24
abbrev f_told : Nat := 25
abbrev f_deeper : Nat := 26
abbrev f_are_hands : Nat := 27
abbrev f_once : Nat := 28
abbrev f_law : Nat := 29
def b_blocks_of : Ss :=
  (.cons (.if_ (.or_ (.not_ (.isi [.tuple] (.loc 0))) (.or_ (.not_ (.loc 0)) (.not_ (.isi [.str] (.ix (.loc 0) (.cst (.int (0))))))))
    (.cons (.ret (.yes (.cst .non)))
    .nil)
    .nil)
  (.cons (.if_ (.cmp .eq (.ix (.loc 0) (.cst (.int (0)))) (.cst (.str ("if" : Str))))
    (.cons (.if_ (.or_ (.cmp .ne (.bi .len (.cons (.loc 0) .nil)) (.cst (.int (3)))) (.or_ (.not_ (.isi [.tuple] (.ix (.loc 0) (.cst (.int (1)))))) (.not_ (.ix (.loc 0) (.cst (.int (1)))))))
      (.cons (.ret (.yes (.cst .non)))
      .nil)
      .nil)
    (.cons (.if_ (.not_ (.bi .all (.cons (.comp false [1] (.nm 1) (.seq (.ix (.loc 0) (.cst (.int (1))))) .no (.and_ (.isi [.tuple] (.loc 1)) (.cmp .eq (.bi .len (.cons (.loc 1) .nil)) (.cst (.int (2)))))) .nil)))
      (.cons (.ret (.yes (.cst .non)))
      .nil)
      .nil)
    (.cons (.ret (.yes (.bin .add (.comp false [1] (.nm 1) (.seq (.ix (.loc 0) (.cst (.int (1))))) .no (.ix (.loc 1) (.cst (.int (1))))) (.ite (.cmp .is_ (.ix (.loc 0) (.cst (.int (2)))) (.cst .non)) (.lst false .nil) (.lst false (.cons (.ix (.loc 0) (.cst (.int (2)))) .nil))))))
    .nil)))
    .nil)
  (.cons (.if_ (.cmp .eq (.ix (.loc 0) (.cst (.int (0)))) (.cst (.str ("while" : Str))))
    (.cons (.ret (.yes (.ite (.cmp .eq (.bi .len (.cons (.loc 0) .nil)) (.cst (.int (3)))) (.lst false (.cons (.ix (.loc 0) (.cst (.int (2)))) .nil)) (.cst .non))))
    .nil)
    .nil)
  (.cons (.if_ (.cmp .eq (.ix (.loc 0) (.cst (.int (0)))) (.cst (.str ("choose" : Str))))
    (.cons (.ret (.yes (.ite (.and_ (.cmp .eq (.bi .len (.cons (.loc 0) .nil)) (.cst (.int (2)))) (.and_ (.isi [.tuple] (.ix (.loc 0) (.cst (.int (1))))) (.ix (.loc 0) (.cst (.int (1)))))) (.bf false .list (.cons (.ix (.loc 0) (.cst (.int (1)))) .nil)) (.cst .non))))
    .nil)
    .nil)
  (.cons (.ret (.yes (.lst false .nil)))
  .nil)))))
def b_all_statements : Ss :=
  (.cons (.asg (.nm 1) (.lst true .nil))
  (.cons (.for_ (.nm 2) (.seq (.loc 0))
    (.cons (.ex (.bm .append (.loc 1) (.cons (.loc 2) .nil)))
    (.cons (.for_ (.nm 3) (.seq (.call f_blocks_of (.cons (.loc 2) .nil)))
      (.cons (.ex (.bm .extend (.loc 1) (.cons (.call f_all_statements (.cons (.loc 3) .nil)) .nil)))
      .nil))
    .nil)))
  (.cons (.ret (.yes (.loc 1)))
  .nil)))
def b_hands_of : Ss :=
  (.cons (.ret (.yes (.bi .tuple (.cons (.comp2 [2, 3, 1] [1] (.tp (.cons (.nm 2) (.cons (.nm 3) .nil))) (.enum (.ix (.loc 0) (.cst (.int (3))))) .no (.nm 1) (.rng (.cons (.ix (.loc 3) (.cst (.int (2)))) .nil)) .no (.tup (.cons (.loc 2) (.cons (.loc 1) .nil)))) .nil))))
  .nil)
def b_hand_number : Ss :=
  (.cons (.for_ (.tp (.cons (.nm 3) (.cons (.tp (.cons (.nm 4) (.cons (.nm 5) .nil))) .nil))) (.enum (.call f_hands_of (.cons (.loc 0) .nil)))
    (.cons (.if_ (.and_ (.cmp .eq (.ix (.ix (.ix (.loc 0) (.cst (.int (3)))) (.loc 4)) (.cst (.int (1)))) (.loc 1)) (.cmp .eq (.loc 5) (.loc 2)))
      (.cons (.ret (.yes (.loc 3)))
      .nil)
      .nil)
    .nil))
  (.cons (.ret (.yes (.cst .non)))
  .nil))
def b_place_block : Ss :=
  (.cons (.asg (.nm 3) (.lst true .nil))
  (.cons (.for_ (.nm 4) (.seq (.loc 0))
    (.cons (.asg (.nm 5) (.loc 1))
    (.cons (.ex (.bm .append (.loc 3) (.cons (.loc 5) .nil)))
    (.cons (.asg (.sub (.loc 2) (.loc 5)) (.tup .nil))
    (.cons (.aug 1 .add (.cst (.int (1))))
    (.cons (.for_ (.nm 6) (.seq (.call f_blocks_of (.cons (.loc 4) .nil)))
      (.cons (.asg (.tp (.cons (.nm 7) (.cons (.nm 1) .nil))) (.call f_place_block (.cons (.loc 6) (.cons (.loc 1) (.cons (.loc 2) .nil)))))
      (.cons (.asg (.sub (.loc 2) (.loc 5)) (.bin .add (.ix (.loc 2) (.loc 5)) (.tup (.cons (.loc 7) .nil))))
      .nil)))
    .nil))))))
  (.cons (.ret (.yes (.tup (.cons (.bi .tuple (.cons (.loc 3) .nil)) (.cons (.loc 1) .nil)))))
  .nil)))
def b_numbered : Ss :=
  (.cons (.asg (.nm 1) .dnK)
  (.cons (.asg (.tp (.cons (.nm 2) (.cons (.nm 3) .nil))) (.call f_place_block (.cons (.loc 0) (.cons (.cst (.int (1))) (.cons (.loc 1) .nil)))))
  (.cons (.ret (.yes (.tup (.cons (.bi .tuple (.cons (.call f_all_statements (.cons (.loc 0) .nil)) .nil)) (.cons (.bi .tuple (.cons (.comp false [4] (.nm 4) (.rng (.cons (.cst (.int (1))) (.cons (.loc 3) .nil))) .no (.ix (.loc 1) (.loc 4))) .nil)) (.cons (.loc 2) .nil))))))
  .nil)))
def b_Layout_init : Ss :=
  (.cons (.asg (.fld (.loc 0) ("program" : Str)) (.loc 1))
  (.cons (.asg (.fld (.loc 0) ("hands" : Str)) (.call f_hands_of (.cons (.loc 1) .nil)))
  (.cons (.asg (.tp (.cons (.fld (.loc 0) ("first" : Str)) (.cons (.fld (.loc 0) ("ranges" : Str)) (.cons (.fld (.loc 0) ("globals" : Str)) .nil)))) (.tup (.cons (.lst true .nil) (.cons (.lst true .nil) (.cons .dnK .nil)))))
  (.cons (.for_ (.nm 2) (.seq (.ix (.loc 1) (.cst (.int (1)))))
    (.cons (.asg (.sub (.fld (.loc 0) ("globals" : Str)) (.ix (.loc 2) (.cst (.int (1))))) (.tup (.cons (.bi .len (.cons (.fld (.loc 0) ("first" : Str)) .nil)) (.cons (.ix (.loc 2) (.cst (.int (2)))) .nil))))
    (.cons (.for_ (.nm 4) (.rng (.cons (.bi .max2 (.cons (.cst (.int (1))) (.cons (.ix (.loc 2) (.cst (.int (2)))) .nil))) .nil))
      (.cons (.ex (.bm .append (.fld (.loc 0) ("first" : Str)) (.cons (.ix (.loc 2) (.cst (.int (5)))) .nil)))
      (.cons (.ex (.bm .append (.fld (.loc 0) ("ranges" : Str)) (.cons (.tup (.cons (.ix (.loc 2) (.cst (.int (3)))) (.cons (.ix (.loc 2) (.cst (.int (4)))) .nil))) .nil)))
      .nil)))
    .nil)))
  (.cons (.asg (.fld (.loc 0) ("locals" : Str)) (.lst true .nil))
  (.cons (.for_ (.tp (.cons (.nm 5) (.cons (.nm 6) .nil))) (.seq (.fld (.loc 0) ("hands" : Str)))
    (.cons (.asg (.nm 7) .dnK)
    (.cons (.for_ (.nm 2) (.seq (.ix (.ix (.ix (.loc 1) (.cst (.int (3)))) (.loc 5)) (.cst (.int (3)))))
      (.cons (.asg (.sub (.loc 7) (.ix (.loc 2) (.cst (.int (1))))) (.bi .len (.cons (.fld (.loc 0) ("first" : Str)) .nil)))
      (.cons (.ex (.bm .append (.fld (.loc 0) ("first" : Str)) (.cons (.ix (.loc 2) (.cst (.int (5)))) .nil)))
      (.cons (.ex (.bm .append (.fld (.loc 0) ("ranges" : Str)) (.cons (.tup (.cons (.ix (.loc 2) (.cst (.int (3)))) (.cons (.ix (.loc 2) (.cst (.int (4)))) .nil))) .nil)))
      .nil))))
    (.cons (.ex (.bm .append (.fld (.loc 0) ("locals" : Str)) (.cons (.loc 7) .nil)))
    .nil))))
  (.cons (.asg (.fld (.loc 0) ("queues" : Str)) (.dictOf true (.comp false [4, 2] (.tp (.cons (.nm 4) (.cons (.nm 2) .nil))) (.enum (.ix (.loc 1) (.cst (.int (2))))) .no (.tup (.cons (.ix (.loc 2) (.cst (.int (1)))) (.cons (.bin .add (.tup (.cons (.loc 4) .nil)) (.sl (.loc 2) (.yes (.cst (.int (2)))) .no)) .nil))))))
  (.cons (.asg (.nm 3) (.comp false [2] (.nm 2) (.seq (.ix (.loc 1) (.cst (.int (3))))) .no (.call f_numbered (.cons (.ix (.loc 2) (.cst (.int (4)))) .nil))))
  (.cons (.asg (.fld (.loc 0) ("statements" : Str)) (.comp false [2] (.nm 2) (.seq (.loc 3)) .no (.ix (.loc 2) (.cst (.int (0))))))
  (.cons (.asg (.fld (.loc 0) ("blocks" : Str)) (.comp false [2] (.nm 2) (.seq (.loc 3)) .no (.ix (.loc 2) (.cst (.int (1))))))
  (.cons (.asg (.fld (.loc 0) ("bodies" : Str)) (.comp false [2] (.nm 2) (.seq (.loc 3)) .no (.ix (.loc 2) (.cst (.int (2))))))
  .nil)))))))))))
def b_Layout_spot : Ss :=
  (.cons (.asg (.nm 3) (.ite (.cmp .isnot (.loc 1) (.cst .non)) (.ix (.fld (.loc 0) ("locals" : Str)) (.loc 1)) .dnK))
  (.cons (.ret (.yes (.ite (.cmp .in_ (.loc 2) (.loc 3)) (.ix (.loc 3) (.loc 2)) (.ix (.ix (.fld (.loc 0) ("globals" : Str)) (.loc 2)) (.cst (.int (0)))))))
  .nil))
def b_Layout_statement : Ss :=
  (.cons (.ret (.yes (.ix (.ix (.fld (.loc 0) ("statements" : Str)) (.ix (.ix (.fld (.loc 0) ("hands" : Str)) (.loc 1)) (.cst (.int (0))))) (.bin .sub (.loc 2) (.cst (.int (1)))))))
  .nil)
def b_Layout_parts : Ss :=
  (.cons (.ret (.yes (.ix (.ix (.fld (.loc 0) ("blocks" : Str)) (.ix (.ix (.fld (.loc 0) ("hands" : Str)) (.loc 1)) (.cst (.int (0))))) (.bin .sub (.loc 2) (.cst (.int (1)))))))
  .nil)
def b_start : Ss :=
  (.cons (.ret (.yes (.lst true (.cons (.comp false [1] (.nm 1) (.seq (.sl (.loc 0) .no (.yes (.cst (.int (63)))))) .no (.bi .int (.cons (.loc 1) .nil))) (.cons (.cst (.int (0))) (.cons (.cst (.int (0))) (.cons (.cst (.int (0))) (.cons (.cst (.int (20))) .nil))))))))
  .nil)
def b_fill : Ss :=
  (.cons (.asg (.sub (.loc 0) (.cst (.int (3)))) (.bin .add (.ix (.loc 0) (.cst (.int (3)))) (.cst (.int (1)))))
  (.cons (.asg (.nm 1) (.bin .add (.bin .mul (.ix (.loc 0) (.cst (.int (3)))) (.cst (.int (69621)))) (.cst (.int (12345)))))
  (.cons (.if_ (.cmp .lt (.ix (.loc 0) (.cst (.int (1)))) (.bi .len (.cons (.ix (.loc 0) (.cst (.int (0)))) .nil)))
    (.cons (.asg (.nm 1) (.ix (.ix (.loc 0) (.cst (.int (0)))) (.ix (.loc 0) (.cst (.int (1))))))
    (.cons (.asg (.sub (.loc 0) (.cst (.int (1)))) (.bin .add (.ix (.loc 0) (.cst (.int (1)))) (.cst (.int (1)))))
    (.cons (.if_ (.cmp .lt (.loc 1) (.cst (.int (0))))
      (.cons (.asg (.nm 1) (.bin .sub (.bin .sub (.cst (.int (0))) (.cst (.int (1)))) (.loc 1)))
      .nil)
      .nil)
    (.cons (.if_ (.cmp .ge (.loc 1) (.bin .pow (.cst (.int (10))) (.cst (.int (18)))))
      (.cons (.ret (.yes (.loc 1)))
      .nil)
      .nil)
    .nil))))
    .nil)
  (.cons (.if_ (.and_ (.ix (.loc 0) (.cst (.int (0)))) (.cmp .ge (.ix (.loc 0) (.cst (.int (1)))) (.bi .len (.cons (.ix (.loc 0) (.cst (.int (0)))) .nil))))
    (.cons (.asg (.nm 1) (.bin .add (.loc 1) (.bin .mod (.bi .int (.cons (.ix (.ix (.loc 0) (.cst (.int (0)))) (.neg (.cst (.int (1))))) .nil)) (.cst (.int (1000003))))))
    .nil)
    .nil)
  (.cons (.asg (.nm 1) (.bin .mod (.bi .int (.cons (.bin .add (.bin .mul (.loc 1) (.cst (.int (48271)))) (.bin .mul (.ix (.loc 0) (.cst (.int (3)))) (.cst (.int (69621))))) .nil)) (.cst (.int (2147483647)))))
  (.cons (.ret (.yes (.bin .add (.bin .fdiv (.bi .int (.cons (.bin .add (.bin .add (.bin .mul (.loc 1) (.loc 1)) (.bin .mul (.ix (.loc 0) (.cst (.int (3)))) (.cst (.int (7919))))) (.cst (.int (11)))) .nil)) (.cst (.int (64)))) (.cst (.int (36028797018963968))))))
  .nil))))))
def b_take : Ss :=
  (.cons (.if_ (.cmp .lt (.ix (.loc 0) (.cst (.int (2)))) (.loc 1))
    (.cons (.asg (.sub (.loc 0) (.cst (.int (2)))) (.call f_fill (.cons (.loc 0) .nil)))
    .nil)
    .nil)
  (.cons (.asg (.nm 2) (.bin .mod (.bi .int (.cons (.ix (.loc 0) (.cst (.int (2)))) .nil)) (.loc 1)))
  (.cons (.asg (.sub (.loc 0) (.cst (.int (2)))) (.bin .fdiv (.ix (.loc 0) (.cst (.int (2)))) (.loc 1)))
  (.cons (.ret (.yes (.loc 2)))
  .nil))))
def b_pick : Ss :=
  (.cons (.ret (.yes (.ix (.loc 1) (.call f_take (.cons (.loc 0) (.cons (.bi .len (.cons (.loc 1) .nil)) .nil))))))
  .nil)
def b_alike : Ss :=
  (.cons (.if_ (.isi [.tuple] (.loc 1))
    (.cons (.ret (.yes (.and_ (.isi [.tuple] (.loc 0)) (.and_ (.cmp .eq (.bi .len (.cons (.loc 0) .nil)) (.bi .len (.cons (.loc 1) .nil))) (.bi .all (.cons (.comp false [2] (.nm 2) (.rng (.cons (.bi .len (.cons (.loc 1) .nil)) .nil)) .no (.call f_alike (.cons (.ix (.loc 0) (.loc 2)) (.cons (.ix (.loc 1) (.loc 2)) .nil)))) .nil))))))
    .nil)
    .nil)
  (.cons (.if_ (.cmp .is_ (.loc 1) (.cst .non))
    (.cons (.ret (.yes (.cmp .is_ (.loc 0) (.cst .non))))
    .nil)
    .nil)
  (.cons (.if_ (.isi [.bool] (.loc 1))
    (.cons (.ret (.yes (.and_ (.isi [.bool] (.loc 0)) (.cmp .eq (.loc 0) (.loc 1)))))
    .nil)
    .nil)
  (.cons (.if_ (.or_ (.isi [.bool] (.loc 0)) (.cmp .ne (.isi [.str] (.loc 0)) (.isi [.str] (.loc 1))))
    (.cons (.ret (.yes (.cst (.bl false))))
    .nil)
    .nil)
  (.cons (.ret (.yes (.and_ (.isi [.int, .str] (.loc 0)) (.cmp .eq (.loc 0) (.loc 1)))))
  .nil)))))
def b_expr : Ss :=
  (.cons (.asg (.nm 3) (.call f_take (.cons (.loc 0) (.cons (.cst (.int (9))) .nil))))
  (.cons (.if_ (.or_ (.cmp .lt (.loc 3) (.cst (.int (2)))) (.and_ (.cmp .gt (.loc 3) (.cst (.int (5)))) (.cmp .eq (.loc 2) (.cst (.int (0))))))
    (.cons (.ret (.yes (.tup (.cons (.cst (.str ("num" : Str))) (.cons (.call f_take (.cons (.loc 0) (.cons (.cst (.int (3))) .nil))) .nil)))))
    .nil)
    .nil)
  (.cons (.if_ (.and_ (.cmp .eq (.loc 3) (.cst (.int (2)))) (.ix (.loc 1) (.cst (.int (1)))))
    (.cons (.ret (.yes (.tup (.cons (.cst (.str ("cell" : Str))) (.cons (.ix (.ix (.loc 1) (.cst (.int (1)))) (.cst (.int (0)))) (.cons (.call f_pick (.cons (.loc 0) (.cons (.lst false (.cons (.tup (.cons (.cst (.str ("num" : Str))) (.cons (.cst (.int (0))) .nil))) (.cons (.tup (.cons (.cst (.str ("num" : Str))) (.cons (.cst (.int (1))) .nil))) (.cons (.tup (.cons (.cst (.str ("name" : Str))) (.cons (.ix (.ix (.loc 1) (.cst (.int (0)))) (.cst (.int (0)))) .nil))) (.cons (.tup (.cons (.cst (.str ("num" : Str))) (.cons (.cst (.int (2))) .nil))) .nil))))) .nil))) .nil))))))
    .nil)
    .nil)
  (.cons (.if_ (.and_ (.cmp .eq (.loc 3) (.cst (.int (3)))) (.ix (.loc 1) (.cst (.int (2)))))
    (.cons (.ret (.yes (.tup (.cons (.cst (.str ("len" : Str))) (.cons (.ix (.ix (.loc 1) (.cst (.int (2)))) (.cst (.int (0)))) .nil)))))
    .nil)
    .nil)
  (.cons (.if_ (.and_ (.cmp .eq (.loc 3) (.cst (.int (4)))) (.cmp .eq (.call f_take (.cons (.loc 0) (.cons (.cst (.int (3))) .nil))) (.cst (.int (0)))))
    (.cons (.ret (.yes (.tup (.cons (.cst (.str ("me" : Str))) .nil))))
    .nil)
    .nil)
  (.cons (.if_ (.cmp .lt (.loc 3) (.cst (.int (6))))
    (.cons (.ret (.yes (.tup (.cons (.cst (.str ("name" : Str))) (.cons (.call f_pick (.cons (.loc 0) (.cons (.ix (.loc 1) (.cst (.int (0)))) .nil))) .nil)))))
    .nil)
    .nil)
  (.cons (.if_ (.cmp .eq (.loc 3) (.cst (.int (6))))
    (.cons (.ret (.yes (.tup (.cons (.call f_pick (.cons (.loc 0) (.cons (.lst false (.cons (.cst (.str ("not" : Str))) (.cons (.cst (.str ("neg" : Str))) .nil))) .nil))) (.cons (.call f_expr (.cons (.loc 0) (.cons (.loc 1) (.cons (.bin .sub (.loc 2) (.cst (.int (1)))) .nil)))) .nil)))))
    .nil)
    .nil)
  (.cons (.asg (.nm 4) (.call f_pick (.cons (.loc 0) (.cons (.lst false (.cons (.cst (.str ("+" : Str))) (.cons (.cst (.str ("-" : Str))) (.cons (.cst (.str ("==" : Str))) (.cons (.cst (.str ("!=" : Str))) (.cons (.cst (.str ("<" : Str))) (.cons (.cst (.str ("<=" : Str))) (.cons (.cst (.str ("and" : Str))) (.cons (.cst (.str ("or" : Str))) (.cons (.cst (.str ("*" : Str))) (.cons (.cst (.str ("/" : Str))) (.cons (.cst (.str ("mod" : Str))) .nil)))))))))))) .nil))))
  (.cons (.ret (.yes (.tup (.cons (.cst (.str ("op" : Str))) (.cons (.loc 4) (.cons (.call f_expr (.cons (.loc 0) (.cons (.loc 1) (.cons (.bin .sub (.loc 2) (.cst (.int (1)))) .nil)))) (.cons (.call f_expr (.cons (.loc 0) (.cons (.loc 1) (.cons (.bin .sub (.loc 2) (.cst (.int (1)))) .nil)))) .nil)))))))
  .nil)))))))))
def b_test : Ss :=
  (.cons (.if_ (.cmp .eq (.call f_take (.cons (.loc 0) (.cons (.cst (.int (4))) .nil))) (.cst (.int (0))))
    (.cons (.ret (.yes (.call f_expr (.cons (.loc 0) (.cons (.loc 1) (.cons (.cst (.int (2))) .nil))))))
    .nil)
    .nil)
  (.cons (.ret (.yes (.tup (.cons (.cst (.str ("op" : Str))) (.cons (.call f_pick (.cons (.loc 0) (.cons (.lst false (.cons (.cst (.str ("==" : Str))) (.cons (.cst (.str ("!=" : Str))) (.cons (.cst (.str ("<" : Str))) (.cons (.cst (.str ("<=" : Str))) .nil))))) .nil))) (.cons (.tup (.cons (.cst (.str ("name" : Str))) (.cons (.call f_pick (.cons (.loc 0) (.cons (.ix (.loc 1) (.cst (.int (0)))) .nil))) .nil))) (.cons (.tup (.cons (.cst (.str ("num" : Str))) (.cons (.call f_take (.cons (.loc 0) (.cons (.cst (.int (3))) .nil))) .nil))) .nil)))))))
  .nil))
def b_target : Ss :=
  (.cons (.if_ (.and_ (.ix (.loc 1) (.cst (.int (1)))) (.cmp .eq (.call f_take (.cons (.loc 0) (.cons (.cst (.int (4))) .nil))) (.cst (.int (0)))))
    (.cons (.ret (.yes (.tup (.cons (.cst (.str ("cell" : Str))) (.cons (.ix (.ix (.loc 1) (.cst (.int (1)))) (.cst (.int (0)))) (.cons (.call f_pick (.cons (.loc 0) (.cons (.lst false (.cons (.tup (.cons (.cst (.str ("num" : Str))) (.cons (.cst (.int (0))) .nil))) (.cons (.tup (.cons (.cst (.str ("num" : Str))) (.cons (.cst (.int (1))) .nil))) (.cons (.tup (.cons (.cst (.str ("name" : Str))) (.cons (.ix (.ix (.loc 1) (.cst (.int (0)))) (.cst (.int (0)))) .nil))) .nil)))) .nil))) .nil))))))
    .nil)
    .nil)
  (.cons (.ret (.yes (.tup (.cons (.cst (.str ("name" : Str))) (.cons (.call f_pick (.cons (.loc 0) (.cons (.ix (.loc 1) (.cst (.int (0)))) .nil))) .nil)))))
  .nil))
def b_plain : Ss :=
  (.cons (.asg (.nm 2) (.call f_take (.cons (.loc 0) (.cons (.cst (.int (8))) .nil))))
  (.cons (.if_ (.cmp .eq (.loc 2) (.cst (.int (0))))
    (.cons (.ret (.yes (.tup (.cons (.cst (.str ("skip" : Str))) .nil))))
    .nil)
    .nil)
  (.cons (.if_ (.cmp .eq (.loc 2) (.cst (.int (1))))
    (.cons (.ret (.yes (.tup (.cons (.cst (.str ("pick" : Str))) (.cons (.call f_target (.cons (.loc 0) (.cons (.loc 1) .nil))) (.cons (.cst (.int (0))) (.cons (.bin .add (.call f_take (.cons (.loc 0) (.cons (.cst (.int (2))) .nil))) (.cst (.int (1)))) .nil)))))))
    .nil)
    .nil)
  (.cons (.if_ (.and_ (.cmp .eq (.loc 2) (.cst (.int (2)))) (.cmp .eq (.call f_take (.cons (.loc 0) (.cons (.cst (.int (2))) .nil))) (.cst (.int (0)))))
    (.cons (.ret (.yes (.tup (.cons (.cst (.str ("assert" : Str))) (.cons (.call f_test (.cons (.loc 0) (.cons (.loc 1) .nil))) .nil)))))
    .nil)
    .nil)
  (.cons (.if_ (.cmp .lt (.loc 2) (.cst (.int (5))))
    (.cons (.ret (.yes (.tup (.cons (.cst (.str ("set" : Str))) (.cons (.call f_target (.cons (.loc 0) (.cons (.loc 1) .nil))) (.cons (.tup (.cons (.cst (.str ("num" : Str))) (.cons (.call f_take (.cons (.loc 0) (.cons (.cst (.int (2))) .nil))) .nil))) .nil))))))
    .nil)
    .nil)
  (.cons (.ret (.yes (.tup (.cons (.cst (.str ("set" : Str))) (.cons (.call f_target (.cons (.loc 0) (.cons (.loc 1) .nil))) (.cons (.call f_expr (.cons (.loc 0) (.cons (.loc 1) (.cons (.cst (.int (1))) .nil)))) .nil))))))
  .nil))))))
def b_statement : Ss :=
  (.cons (.asg (.nm 3) (.call f_take (.cons (.loc 0) (.cons (.cst (.int (14))) .nil))))
  (.cons (.if_ (.cmp .lt (.loc 3) (.cst (.int (5))))
    (.cons (.ret (.yes (.call f_plain (.cons (.loc 0) (.cons (.loc 1) .nil)))))
    .nil)
    .nil)
  (.cons (.if_ (.cmp .eq (.loc 3) (.cst (.int (5))))
    (.cons (.ret (.yes (.tup (.cons (.cst (.str ("mark" : Str))) (.cons (.call f_pick (.cons (.loc 0) (.cons (.lst false (.cons (.cst (.str ("m" : Str))) (.cons (.cst (.str ("n" : Str))) .nil))) .nil))) .nil)))))
    .nil)
    .nil)
  (.cons (.if_ (.or_ (.cmp .eq (.loc 3) (.cst (.int (6)))) (.cmp .eq (.loc 3) (.cst (.int (7)))))
    (.cons (.ret (.yes (.tup (.cons (.cst (.str ("wait" : Str))) (.cons (.call f_test (.cons (.loc 0) (.cons (.loc 1) .nil))) .nil)))))
    .nil)
    .nil)
  (.cons (.if_ (.and_ (.cmp .eq (.loc 3) (.cst (.int (8)))) (.ix (.loc 1) (.cst (.int (2)))))
    (.cons (.ret (.yes (.tup (.cons (.cst (.str ("send" : Str))) (.cons (.ix (.ix (.loc 1) (.cst (.int (2)))) (.cst (.int (0)))) (.cons (.call f_expr (.cons (.loc 0) (.cons (.loc 1) (.cons (.cst (.int (0))) .nil)))) .nil))))))
    .nil)
    .nil)
  (.cons (.if_ (.and_ (.cmp .eq (.loc 3) (.cst (.int (9)))) (.ix (.loc 1) (.cst (.int (2)))))
    (.cons (.ret (.yes (.tup (.cons (.cst (.str ("receive" : Str))) (.cons (.ix (.ix (.loc 1) (.cst (.int (2)))) (.cst (.int (0)))) (.cons (.call f_target (.cons (.loc 0) (.cons (.loc 1) .nil))) .nil))))))
    .nil)
    .nil)
  (.cons (.if_ (.and_ (.cmp .eq (.loc 3) (.cst (.int (10)))) (.cmp .eq (.call f_take (.cons (.loc 0) (.cons (.cst (.int (4))) .nil))) (.cst (.int (0)))))
    (.cons (.ret (.yes (.tup (.cons (.cst (.str ("stop" : Str))) .nil))))
    .nil)
    .nil)
  (.cons (.if_ (.cmp .eq (.loc 3) (.cst (.int (10))))
    (.cons (.asg (.nm 4) (.ite (.cmp .eq (.call f_take (.cons (.loc 0) (.cons (.cst (.int (2))) .nil))) (.cst (.int (0)))) (.lst false (.cons (.tup (.cons (.cst (.str ("wait" : Str))) (.cons (.call f_test (.cons (.loc 0) (.cons (.loc 1) .nil))) .nil))) .nil)) (.lst false .nil)))
    (.cons (.ret (.yes (.tup (.cons (.cst (.str ("atomic" : Str))) (.cons (.bi .tuple (.cons (.bin .add (.loc 4) (.comp false [6] (.nm 6) (.rng (.cons (.bin .add (.cst (.int (1))) (.call f_take (.cons (.loc 0) (.cons (.cst (.int (2))) .nil)))) .nil)) .no (.call f_plain (.cons (.loc 0) (.cons (.loc 1) .nil))))) .nil)) .nil)))))
    .nil))
    .nil)
  (.cons (.if_ (.cmp .eq (.loc 2) (.cst (.int (0))))
    (.cons (.ret (.yes (.call f_plain (.cons (.loc 0) (.cons (.loc 1) .nil)))))
    .nil)
    .nil)
  (.cons (.if_ (.cmp .eq (.loc 3) (.cst (.int (11))))
    (.cons (.asg (.nm 5) (.bi .tuple (.cons (.comp false [6] (.nm 6) (.rng (.cons (.bin .add (.cst (.int (1))) (.call f_take (.cons (.loc 0) (.cons (.cst (.int (2))) .nil)))) .nil)) .no (.tup (.cons (.call f_test (.cons (.loc 0) (.cons (.loc 1) .nil))) (.cons (.call f_block (.cons (.loc 0) (.cons (.loc 1) (.cons (.cst (.int (2))) (.cons (.bin .sub (.loc 2) (.cst (.int (1)))) .nil))))) .nil)))) .nil)))
    (.cons (.ret (.yes (.tup (.cons (.cst (.str ("if" : Str))) (.cons (.loc 5) (.cons (.ite (.cmp .eq (.call f_take (.cons (.loc 0) (.cons (.cst (.int (2))) .nil))) (.cst (.int (0)))) (.call f_block (.cons (.loc 0) (.cons (.loc 1) (.cons (.cst (.int (2))) (.cons (.bin .sub (.loc 2) (.cst (.int (1)))) .nil))))) (.cst .non)) .nil))))))
    .nil))
    .nil)
  (.cons (.if_ (.cmp .eq (.loc 3) (.cst (.int (12))))
    (.cons (.ret (.yes (.tup (.cons (.cst (.str ("choose" : Str))) (.cons (.bi .tuple (.cons (.comp false [6] (.nm 6) (.rng (.cons (.bin .add (.cst (.int (1))) (.call f_take (.cons (.loc 0) (.cons (.cst (.int (2))) .nil)))) .nil)) .no (.call f_block (.cons (.loc 0) (.cons (.loc 1) (.cons (.cst (.int (2))) (.cons (.bin .sub (.loc 2) (.cst (.int (1)))) .nil)))))) .nil)) .nil)))))
    .nil)
    .nil)
  (.cons (.ret (.yes (.tup (.cons (.cst (.str ("while" : Str))) (.cons (.call f_test (.cons (.loc 0) (.cons (.loc 1) .nil))) (.cons (.call f_block (.cons (.loc 0) (.cons (.loc 1) (.cons (.cst (.int (2))) (.cons (.bin .sub (.loc 2) (.cst (.int (1)))) .nil))))) .nil))))))
  .nil))))))))))))
def b_block : Ss :=
  (.cons (.ret (.yes (.bi .tuple (.cons (.comp false [4] (.nm 4) (.rng (.cons (.call f_take (.cons (.loc 0) (.cons (.bin .add (.loc 2) (.cst (.int (1)))) .nil))) .nil)) .no (.call f_statement (.cons (.loc 0) (.cons (.loc 1) (.cons (.loc 3) .nil))))) .nil))))
  .nil)
def b_many : Ss :=
  (.cons (.asg (.nm 1) (.lst true .nil))
  (.cons (.ex (.call f_numbers (.cons (.loc 0) (.cons (.cst (.int (1))) (.cons (.loc 1) (.cons (.lst true .nil) .nil))))))
  (.cons (.ret (.yes (.bin .add (.bi .len (.cons (.loc 1) .nil)) (.bi .sum (.cons (.comp false [2] (.nm 2) (.seq (.loc 1)) (.yes (.cmp .eq (.ix (.loc 2) (.cst (.int (0)))) (.cst (.str ("atomic" : Str))))) (.bi .len (.cons (.ix (.loc 2) (.cst (.int (1)))) .nil))) .nil)))))
  .nil)))
def b_process : Ss :=
  (.cons (.asg (.nm 4) (.ite (.cmp .eq (.call f_take (.cons (.loc 0) (.cons (.cst (.int (3))) .nil))) (.cst (.int (0)))) (.tup (.cons (.tup (.cons (.cst (.str ("var" : Str))) (.cons (.cst (.str ("v" : Str))) (.cons (.cst (.int (0))) (.cons (.cst (.int (0))) (.cons (.cst (.int (1))) (.cons (.call f_take (.cons (.loc 0) (.cons (.cst (.int (2))) .nil))) .nil))))))) .nil)) (.tup .nil)))
  (.cons (.asg (.nm 5) (.lst false (.cons (.bin .add (.ix (.loc 3) (.cst (.int (0)))) (.comp false [8] (.nm 8) (.seq (.loc 4)) .no (.ix (.loc 8) (.cst (.int (1)))))) (.cons (.ix (.loc 3) (.cst (.int (1)))) (.cons (.ix (.loc 3) (.cst (.int (2)))) .nil)))))
  (.cons (.asg (.nm 6) (.comp false [7] (.nm 7) (.rng (.cons (.bin .add (.cst (.int (2))) (.call f_take (.cons (.loc 0) (.cons (.cst (.int (3))) .nil)))) .nil)) .no (.call f_statement (.cons (.loc 0) (.cons (.loc 5) (.cons (.cst (.int (1))) .nil))))))
  (.cons (.if_ (.cmp .gt (.call f_take (.cons (.loc 0) (.cons (.cst (.int (3))) .nil))) (.cst (.int (0))))
    (.cons (.asg (.nm 6) (.lst false (.cons (.tup (.cons (.cst (.str ("while" : Str))) (.cons (.tup (.cons (.cst (.str ("num" : Str))) (.cons (.cst (.int (1))) .nil))) (.cons (.bi .tuple (.cons (.loc 6) .nil)) .nil)))) .nil)))
    .nil)
    .nil)
  (.cons (.if_ (.cmp .gt (.call f_many (.cons (.loc 6) .nil)) (.cst (.int (30))))
    (.cons (.asg (.nm 6) (.lst false (.cons (.tup (.cons (.cst (.str ("skip" : Str))) .nil)) .nil)))
    .nil)
    .nil)
  (.cons (.ret (.yes (.tup (.cons (.cst (.str ("process" : Str))) (.cons (.loc 1) (.cons (.loc 2) (.cons (.loc 4) (.cons (.bi .tuple (.cons (.loc 6) .nil)) .nil))))))))
  .nil))))))
def b_program : Ss :=
  (.cons (.asg (.nm 1) (.lst true (.cons (.tup (.cons (.cst (.str ("var" : Str))) (.cons (.cst (.str ("x" : Str))) (.cons (.cst (.int (0))) (.cons (.cst (.int (0))) (.cons (.bin .add (.cst (.int (1))) (.call f_take (.cons (.loc 0) (.cons (.cst (.int (2))) .nil)))) (.cons (.cst (.int (0))) .nil))))))) .nil)))
  (.cons (.if_ (.cmp .gt (.call f_take (.cons (.loc 0) (.cons (.cst (.int (3))) .nil))) (.cst (.int (0))))
    (.cons (.ex (.bm .append (.loc 1) (.cons (.tup (.cons (.cst (.str ("var" : Str))) (.cons (.cst (.str ("y" : Str))) (.cons (.cst (.int (0))) (.cons (.cst (.int (0))) (.cons (.cst (.int (1))) (.cons (.call f_take (.cons (.loc 0) (.cons (.cst (.int (2))) .nil))) .nil))))))) .nil)))
    .nil)
    .nil)
  (.cons (.if_ (.cmp .eq (.call f_take (.cons (.loc 0) (.cons (.cst (.int (3))) .nil))) (.cst (.int (0))))
    (.cons (.ex (.bm .append (.loc 1) (.cons (.tup (.cons (.cst (.str ("var" : Str))) (.cons (.cst (.str ("t" : Str))) (.cons (.cst (.int (2))) (.cons (.cst (.int (0))) (.cons (.cst (.int (1))) (.cons (.cst (.int (0))) .nil))))))) .nil)))
    .nil)
    .nil)
  (.cons (.asg (.nm 2) (.ite (.cmp .eq (.call f_take (.cons (.loc 0) (.cons (.cst (.int (3))) .nil))) (.cst (.int (0)))) (.tup (.cons (.tup (.cons (.cst (.str ("chan" : Str))) (.cons (.cst (.str ("q" : Str))) (.cons (.bin .add (.cst (.int (1))) (.call f_take (.cons (.loc 0) (.cons (.cst (.int (2))) .nil)))) (.cons (.cst (.int (0))) (.cons (.cst (.int (1))) .nil)))))) .nil)) (.tup .nil)))
  (.cons (.asg (.nm 3) (.comp false [6] (.nm 6) (.seq (.loc 1)) (.yes (.cmp .eq (.ix (.loc 6) (.cst (.int (2)))) (.cst (.int (0))))) (.ix (.loc 6) (.cst (.int (1))))))
  (.cons (.asg (.nm 4) (.lst false (.cons (.loc 3) (.cons (.comp false [6] (.nm 6) (.seq (.loc 1)) (.yes (.cmp .gt (.ix (.loc 6) (.cst (.int (2)))) (.cst (.int (0))))) (.ix (.loc 6) (.cst (.int (1))))) (.cons (.comp false [6] (.nm 6) (.seq (.loc 2)) .no (.ix (.loc 6) (.cst (.int (1))))) .nil)))))
  (.cons (.asg (.nm 5) (.lst true (.cons (.call f_process (.cons (.loc 0) (.cons (.cst (.str ("p" : Str))) (.cons (.bin .add (.cst (.int (1))) (.call f_take (.cons (.loc 0) (.cons (.cst (.int (2))) .nil)))) (.cons (.loc 4) .nil))))) .nil)))
  (.cons (.if_ (.cmp .gt (.call f_take (.cons (.loc 0) (.cons (.cst (.int (3))) .nil))) (.cst (.int (0))))
    (.cons (.ex (.bm .append (.loc 5) (.cons (.call f_process (.cons (.loc 0) (.cons (.cst (.str ("r" : Str))) (.cons (.cst (.int (1))) (.cons (.loc 4) .nil))))) .nil)))
    .nil)
    .nil)
  (.cons (.ret (.yes (.tup (.cons (.cst (.str ("program" : Str))) (.cons (.bi .tuple (.cons (.loc 1) .nil)) (.cons (.loc 2) (.cons (.bi .tuple (.cons (.loc 5) .nil)) .nil)))))))
  .nil)))))))))
def b_numbers : Ss :=
  (.cons (.asg (.nm 4) (.lst true .nil))
  (.cons (.for_ (.nm 5) (.seq (.loc 0))
    (.cons (.asg (.nm 6) (.loc 1))
    (.cons (.ex (.bm .append (.loc 4) (.cons (.loc 6) .nil)))
    (.cons (.ex (.bm .append (.loc 2) (.cons (.loc 5) .nil)))
    (.cons (.ex (.bm .append (.loc 3) (.cons (.lst true .nil) .nil)))
    (.cons (.asg (.nm 1) (.bin .add (.loc 1) (.cst (.int (1)))))
    (.cons (.asg (.nm 7) (.lst true .nil))
    (.cons (.if_ (.cmp .eq (.ix (.loc 5) (.cst (.int (0)))) (.cst (.str ("if" : Str))))
      (.cons (.asg (.nm 7) (.bin .add (.comp false [10] (.nm 10) (.seq (.ix (.loc 5) (.cst (.int (1))))) .no (.ix (.loc 10) (.cst (.int (1))))) (.ite (.cmp .is_ (.ix (.loc 5) (.cst (.int (2)))) (.cst .non)) (.lst false .nil) (.lst false (.cons (.ix (.loc 5) (.cst (.int (2)))) .nil)))))
      .nil)
      (.cons (.if_ (.cmp .eq (.ix (.loc 5) (.cst (.int (0)))) (.cst (.str ("while" : Str))))
        (.cons (.asg (.nm 7) (.lst false (.cons (.ix (.loc 5) (.cst (.int (2)))) .nil)))
        .nil)
        (.cons (.if_ (.cmp .eq (.ix (.loc 5) (.cst (.int (0)))) (.cst (.str ("choose" : Str))))
          (.cons (.asg (.nm 7) (.bf false .list (.cons (.ix (.loc 5) (.cst (.int (1)))) .nil)))
          .nil)
          .nil)
        .nil))
      .nil))
    (.cons (.for_ (.nm 8) (.seq (.loc 7))
      (.cons (.asg (.tp (.cons (.nm 9) (.cons (.nm 1) .nil))) (.call f_numbers (.cons (.loc 8) (.cons (.loc 1) (.cons (.loc 2) (.cons (.loc 3) .nil))))))
      (.cons (.ex (.bm .append (.ix (.loc 3) (.bin .sub (.loc 6) (.cst (.int (1))))) (.cons (.bi .tuple (.cons (.loc 9) .nil)) .nil)))
      .nil)))
    .nil)))))))))
  (.cons (.ret (.yes (.tup (.cons (.loc 4) (.cons (.loc 1) .nil)))))
  .nil)))
def b_told : Ss :=
  (.cons (.asg (.nm 1) (.lst true .nil))
  (.cons (.for_ (.tp (.cons (.nm 3) (.cons (.nm 2) .nil))) (.enum (.ix (.loc 0) (.cst (.int (3)))))
    (.cons (.asg (.nm 1) (.bin .add (.loc 1) (.comp false [12] (.nm 12) (.rng (.cons (.ix (.loc 2) (.cst (.int (2)))) .nil)) .no (.tup (.cons (.loc 3) (.cons (.loc 12) .nil))))))
    .nil))
  (.cons (.par [4, 5, 6] (.cons (.bin .add (.comp false [8] (.nm 8) (.seq (.loc 1)) .no .dnK) (.lst false (.cons .dnK .nil))) (.cons (.lst true .nil) (.cons (.lst true .nil) .nil))))
  (.cons (.for_ (.nm 2) (.seq (.ix (.loc 0) (.cst (.int (1)))))
    (.cons (.for_ (.nm 7) (.seq (.loc 4))
      (.cons (.asg (.sub (.loc 7) (.ix (.loc 2) (.cst (.int (1))))) (.tup (.cons (.bi .len (.cons (.loc 6) .nil)) (.cons (.ix (.loc 2) (.cst (.int (2)))) .nil))))
      .nil))
    (.cons (.asg (.nm 5) (.catM (.loc 5) (.bin .mul (.lst false (.cons (.tup (.cons (.ix (.loc 2) (.cst (.int (3)))) (.cons (.ix (.loc 2) (.cst (.int (4)))) .nil))) .nil)) (.bi .max2 (.cons (.cst (.int (1))) (.cons (.ix (.loc 2) (.cst (.int (2)))) .nil))))))
    (.cons (.asg (.nm 6) (.catM (.loc 6) (.bin .mul (.lst false (.cons (.ix (.loc 2) (.cst (.int (5)))) .nil)) (.bi .max2 (.cons (.cst (.int (1))) (.cons (.ix (.loc 2) (.cst (.int (2)))) .nil))))))
    .nil))))
  (.cons (.for_ (.tp (.cons (.nm 8) (.cons (.tp (.cons (.nm 3) (.cons (.nm 12) .nil))) .nil))) (.enum (.loc 1))
    (.cons (.for_ (.nm 2) (.seq (.ix (.ix (.ix (.loc 0) (.cst (.int (3)))) (.loc 3)) (.cst (.int (3)))))
      (.cons (.asg (.sub (.ix (.loc 4) (.loc 8)) (.ix (.loc 2) (.cst (.int (1))))) (.tup (.cons (.bi .len (.cons (.loc 6) .nil)) (.cons (.cst (.int (0))) .nil))))
      (.cons (.ex (.bm .append (.loc 5) (.cons (.tup (.cons (.ix (.loc 2) (.cst (.int (3)))) (.cons (.ix (.loc 2) (.cst (.int (4)))) .nil))) .nil)))
      (.cons (.ex (.bm .append (.loc 6) (.cons (.ix (.loc 2) (.cst (.int (5)))) .nil)))
      .nil))))
    .nil))
  (.cons (.par [9, 10, 11] (.cons (.lst true .nil) (.cons (.lst true .nil) (.cons (.lst true .nil) .nil))))
  (.cons (.for_ (.nm 2) (.seq (.ix (.loc 0) (.cst (.int (3)))))
    (.cons (.ex (.bm .append (.loc 9) (.cons (.lst true .nil) .nil)))
    (.cons (.ex (.bm .append (.loc 10) (.cons (.lst true .nil) .nil)))
    (.cons (.ex (.bm .append (.loc 11) (.cons (.bi .tuple (.cons (.ix (.call f_numbers (.cons (.ix (.loc 2) (.cst (.int (4)))) (.cons (.cst (.int (1))) (.cons (.ix (.loc 9) (.neg (.cst (.int (1))))) (.cons (.ix (.loc 10) (.neg (.cst (.int (1))))) .nil))))) (.cst (.int (0)))) .nil)) .nil)))
    .nil))))
  (.cons (.ret (.yes (.lst false (.cons (.loc 0) (.cons (.loc 1) (.cons (.loc 4) (.cons (.loc 5) (.cons (.bi .tuple (.cons (.loc 6) .nil)) (.cons (.loc 9) (.cons (.loc 10) (.cons (.loc 11) .nil)))))))))))
  .nil))))))))
def b_deeper : Ss :=
  (.cons (.asg (.nm 2) (.ix (.ix (.loc 1) (.cst (.int (3)))) (.neg (.cst (.int (1))))))
  (.cons (.asg (.nm 3) (.ix (.loc 2) (.cst (.int (4)))))
  (.cons (.for_ (.nm 4) (.rng (.cons (.call f_take (.cons (.loc 0) (.cons (.cst (.int (3))) .nil))) .nil))
    (.cons (.asg (.nm 5) (.call f_pick (.cons (.loc 0) (.cons (.lst false (.cons (.tup (.cons (.cst (.str ("if" : Str))) (.cons (.tup (.cons (.tup (.cons (.tup (.cons (.cst (.str ("num" : Str))) (.cons (.cst (.int (1))) .nil))) (.cons (.loc 3) .nil))) (.cons (.tup (.cons (.tup (.cons (.cst (.str ("num" : Str))) (.cons (.cst (.int (0))) .nil))) (.cons (.tup .nil) .nil))) .nil))) (.cons (.cst .non) .nil)))) (.cons (.tup (.cons (.cst (.str ("choose" : Str))) (.cons (.tup (.cons (.loc 3) (.cons (.tup (.cons (.tup (.cons (.cst (.str ("skip" : Str))) .nil)) .nil)) .nil))) .nil))) (.cons (.tup (.cons (.cst (.str ("if" : Str))) (.cons (.tup (.cons (.tup (.cons (.tup (.cons (.cst (.str ("num" : Str))) (.cons (.cst (.int (0))) .nil))) (.cons (.tup .nil) .nil))) .nil)) (.cons (.loc 3) .nil)))) (.cons (.tup (.cons (.cst (.str ("while" : Str))) (.cons (.tup (.cons (.cst (.str ("num" : Str))) (.cons (.cst (.int (1))) .nil))) (.cons (.loc 3) .nil)))) .nil))))) .nil))))
    (.cons (.asg (.nm 3) (.ite (.cmp .eq (.call f_take (.cons (.loc 0) (.cons (.cst (.int (2))) .nil))) (.cst (.int (0)))) (.tup (.cons (.tup (.cons (.cst (.str ("skip" : Str))) .nil)) (.cons (.loc 5) .nil))) (.tup (.cons (.loc 5) (.cons (.tup (.cons (.cst (.str ("stop" : Str))) .nil)) .nil)))))
    .nil)))
  (.cons (.ret (.yes (.bin .add (.sl (.loc 1) .no (.yes (.cst (.int (3))))) (.tup (.cons (.bin .add (.sl (.ix (.loc 1) (.cst (.int (3)))) .no (.yes (.neg (.cst (.int (1)))))) (.tup (.cons (.bin .add (.sl (.loc 2) .no (.yes (.cst (.int (4))))) (.tup (.cons (.loc 3) .nil))) .nil))) .nil)))))
  .nil))))
def b_are_hands : Ss :=
  (.cons (.if_ (.not_ (.call f_alike (.cons (.call f_hands_of (.cons (.loc 0) .nil)) (.cons (.bi .tuple (.cons (.ix (.loc 1) (.cst (.int (1)))) .nil)) .nil))))
    (.cons (.ret (.yes (.cst (.bl false))))
    .nil)
    .nil)
  (.cons (.for_ (.tp (.cons (.nm 2) (.cons (.nm 3) .nil))) (.enum (.ix (.loc 0) (.cst (.int (3)))))
    (.cons (.if_ (.not_ (.call f_alike (.cons (.bi .tuple (.cons (.call f_all_statements (.cons (.ix (.loc 3) (.cst (.int (4)))) .nil)) .nil)) (.cons (.bi .tuple (.cons (.ix (.ix (.loc 1) (.cst (.int (5)))) (.loc 2)) .nil)) .nil))))
      (.cons (.ret (.yes (.cst (.bl false))))
      .nil)
      .nil)
    (.cons (.for_ (.nm 4) (.rng (.cons (.cst (.int (4))) .nil))
      (.cons (.asg (.nm 5) (.ite (.cmp .in_ (.tup (.cons (.loc 2) (.cons (.loc 4) .nil))) (.ix (.loc 1) (.cst (.int (1))))) (.bm .index (.ix (.loc 1) (.cst (.int (1)))) (.cons (.tup (.cons (.loc 2) (.cons (.loc 4) .nil))) .nil)) (.cst .non)))
      (.cons (.if_ (.not_ (.call f_alike (.cons (.call f_hand_number (.cons (.loc 0) (.cons (.ix (.loc 3) (.cst (.int (1)))) (.cons (.loc 4) .nil)))) (.cons (.loc 5) .nil))))
        (.cons (.ret (.yes (.cst (.bl false))))
        .nil)
        .nil)
      .nil)))
    .nil)))
  (.cons (.ret (.yes (.cmp .is_ (.call f_hand_number (.cons (.loc 0) (.cons (.cst (.str ("nobody" : Str))) (.cons (.cst (.int (0))) .nil)))) (.cst .non))))
  .nil)))
def b_once : Ss :=
  (.cons (.asg (.nm 1) (.call f_deeper (.cons (.loc 0) (.cons (.call f_program (.cons (.loc 0) .nil)) .nil))))
  (.cons (.asg (.tp (.cons (.nm 3) (.cons (.nm 4) .nil))) (.tup (.cons (.call f_told (.cons (.loc 1) .nil)) (.cons (.new 0 (.cons (.loc 1) .nil)) .nil))))
  (.cons (.if_ (.or_ (.not_ (.call f_are_hands (.cons (.loc 1) (.cons (.loc 3) .nil)))) (.not_ (.call f_alike (.cons (.bi .tuple (.cons (.fld (.loc 4) ("hands" : Str)) .nil)) (.cons (.bi .tuple (.cons (.ix (.loc 3) (.cst (.int (1)))) .nil)) .nil)))))
    (.cons (.ret (.yes (.cst (.bl false))))
    .nil)
    .nil)
  (.cons (.if_ (.or_ (.not_ (.call f_alike (.cons (.bi .tuple (.cons (.fld (.loc 4) ("first" : Str)) .nil)) (.cons (.ix (.loc 3) (.cst (.int (4)))) .nil)))) (.not_ (.call f_alike (.cons (.bi .tuple (.cons (.fld (.loc 4) ("ranges" : Str)) .nil)) (.cons (.bi .tuple (.cons (.ix (.loc 3) (.cst (.int (3)))) .nil)) .nil)))))
    (.cons (.ret (.yes (.cst (.bl false))))
    .nil)
    .nil)
  (.cons (.if_ (.or_ (.cmp .ne (.bf false .sorted (.cons (.fld (.loc 4) ("globals" : Str)) .nil)) (.bf false .sorted (.cons (.comp false [2] (.nm 2) (.seq (.ix (.loc 1) (.cst (.int (1))))) .no (.ix (.loc 2) (.cst (.int (1))))) .nil))) (.cmp .ne (.bf false .sorted (.cons (.fld (.loc 4) ("queues" : Str)) .nil)) (.bf false .sorted (.cons (.comp false [2] (.nm 2) (.seq (.ix (.loc 1) (.cst (.int (2))))) .no (.ix (.loc 2) (.cst (.int (1))))) .nil))))
    (.cons (.ret (.yes (.cst (.bl false))))
    .nil)
    .nil)
  (.cons (.for_ (.nm 2) (.seq (.ix (.loc 1) (.cst (.int (1)))))
    (.cons (.if_ (.not_ (.call f_alike (.cons (.bi .tuple (.cons (.ix (.fld (.loc 4) ("globals" : Str)) (.ix (.loc 2) (.cst (.int (1))))) .nil)) (.cons (.ix (.ix (.ix (.loc 3) (.cst (.int (2)))) (.neg (.cst (.int (1))))) (.ix (.loc 2) (.cst (.int (1))))) .nil))))
      (.cons (.ret (.yes (.cst (.bl false))))
      .nil)
      .nil)
    (.cons (.if_ (.and_ (.cmp .eq (.ix (.loc 2) (.cst (.int (2)))) (.cst (.int (0)))) (.not_ (.bi .all (.cons (.comp false [6] (.nm 6) (.seq (.lst false (.cons (.cst .non) (.cons (.cst (.int (0))) .nil)))) .no (.call f_alike (.cons (.meth (.loc 4) ("spot" : Str) (.cons (.loc 6) (.cons (.ix (.loc 2) (.cst (.int (1)))) .nil))) (.cons (.ix (.ix (.ix (.ix (.loc 3) (.cst (.int (2)))) (.neg (.cst (.int (1))))) (.ix (.loc 2) (.cst (.int (1))))) (.cst (.int (0)))) .nil)))) .nil))))
      (.cons (.ret (.yes (.cst (.bl false))))
      .nil)
      .nil)
    .nil)))
  (.cons (.for_ (.tp (.cons (.nm 5) (.cons (.nm 2) .nil))) (.enum (.ix (.loc 1) (.cst (.int (2)))))
    (.cons (.if_ (.not_ (.call f_alike (.cons (.bi .tuple (.cons (.ix (.fld (.loc 4) ("queues" : Str)) (.ix (.loc 2) (.cst (.int (1))))) .nil)) (.cons (.bin .add (.tup (.cons (.loc 5) .nil)) (.sl (.loc 2) (.yes (.cst (.int (2)))) .no)) .nil))))
      (.cons (.ret (.yes (.cst (.bl false))))
      .nil)
      .nil)
    .nil))
  (.cons (.for_ (.tp (.cons (.nm 6) (.cons (.tp (.cons (.nm 8) (.cons (.nm 9) .nil))) .nil))) (.enum (.ix (.loc 3) (.cst (.int (1)))))
    (.cons (.asg (.nm 7) (.comp false [2] (.nm 2) (.seq (.ix (.ix (.ix (.loc 1) (.cst (.int (3)))) (.loc 8)) (.cst (.int (3))))) .no (.ix (.loc 2) (.cst (.int (1))))))
    (.cons (.if_ (.or_ (.cmp .ne (.bf false .sorted (.cons (.ix (.fld (.loc 4) ("locals" : Str)) (.loc 6)) .nil)) (.bf false .sorted (.cons (.loc 7) .nil))) (.not_ (.bi .all (.cons (.comp false [2] (.nm 2) (.seq (.loc 7)) .no (.call f_alike (.cons (.ix (.ix (.fld (.loc 4) ("locals" : Str)) (.loc 6)) (.loc 2)) (.cons (.ix (.ix (.ix (.ix (.loc 3) (.cst (.int (2)))) (.loc 6)) (.loc 2)) (.cst (.int (0)))) .nil)))) .nil))))
      (.cons (.ret (.yes (.cst (.bl false))))
      .nil)
      .nil)
    (.cons (.if_ (.not_ (.bi .all (.cons (.comp false [2] (.nm 2) (.seq (.loc 7)) .no (.call f_alike (.cons (.meth (.loc 4) ("spot" : Str) (.cons (.loc 6) (.cons (.loc 2) .nil))) (.cons (.ix (.ix (.ix (.ix (.loc 3) (.cst (.int (2)))) (.loc 6)) (.loc 2)) (.cst (.int (0)))) .nil)))) .nil)))
      (.cons (.ret (.yes (.cst (.bl false))))
      .nil)
      .nil)
    (.cons (.if_ (.not_ (.call f_alike (.cons (.bi .tuple (.cons (.ix (.fld (.loc 4) ("bodies" : Str)) (.loc 8)) .nil)) (.cons (.ix (.ix (.loc 3) (.cst (.int (7)))) (.loc 8)) .nil))))
      (.cons (.ret (.yes (.cst (.bl false))))
      .nil)
      .nil)
    (.cons (.for_ (.tp (.cons (.nm 10) (.cons (.nm 2) .nil))) (.enum (.ix (.ix (.loc 3) (.cst (.int (5)))) (.loc 8)))
      (.cons (.asg (.nm 11) (.bi .tuple (.cons (.ix (.ix (.ix (.loc 3) (.cst (.int (6)))) (.loc 8)) (.loc 10)) .nil)))
      (.cons (.if_ (.or_ (.not_ (.call f_alike (.cons (.meth (.loc 4) ("statement" : Str) (.cons (.loc 6) (.cons (.bin .add (.loc 10) (.cst (.int (1)))) .nil))) (.cons (.loc 2) .nil)))) (.not_ (.call f_alike (.cons (.bi .tuple (.cons (.meth (.loc 4) ("parts" : Str) (.cons (.loc 6) (.cons (.bin .add (.loc 10) (.cst (.int (1)))) .nil))) .nil)) (.cons (.loc 11) .nil)))))
        (.cons (.ret (.yes (.cst (.bl false))))
        .nil)
        .nil)
      .nil)))
    .nil))))))
  (.cons (.ret (.yes (.cst (.bl true))))
  .nil)))))))))
def b_law : Ss :=
  (.cons (.asg (.nm 1) (.call f_start (.cons (.loc 0) .nil)))
  (.cons (.for_ (.nm 2) (.rng (.cons (.cst (.int (4))) .nil))
    (.cons (.if_ (.not_ (.call f_once (.cons (.loc 1) .nil)))
      (.cons (.ret (.yes (.cst (.bl false))))
      .nil)
      .nil)
    .nil))
  (.cons (.ret (.yes (.cst (.bl true))))
  .nil)))
def d_blocks_of : Df := ⟨(("blocks_of" : Str), none), "blocks_of", "blocks_of", (top 2), ([("value" : Str), ("one" : Str)] : List Str), ([("value" : Str)] : List Str), b_blocks_of⟩
def d_all_statements : Df := ⟨(("all_statements" : Str), none), "all_statements", "all_statements", (top 3), ([("body" : Str), ("found" : Str), ("one" : Str), ("block" : Str)] : List Str), ([("body" : Str)] : List Str), b_all_statements⟩
def d_hands_of : Df := ⟨(("hands_of" : Str), none), "hands_of", "hands_of", (top 4), ([("program" : Str), ("copy" : Str), ("k" : Str), ("one" : Str)] : List Str), ([("program" : Str)] : List Str), b_hands_of⟩
def d_hand_number : Df := ⟨(("hand_number" : Str), none), "hand_number", "hand_number", (top 5), ([("program" : Str), ("name" : Str), ("copy" : Str), ("number" : Str), ("k" : Str), ("own" : Str)] : List Str), ([("program" : Str), ("name" : Str), ("copy" : Str)] : List Str), b_hand_number⟩
def d_place_block : Df := ⟨(("place_block" : Str), none), "place_block", "place_block", (top 7), ([("block" : Str), ("at" : Str), ("blocks" : Str), ("found" : Str), ("one" : Str), ("own" : Str), ("part" : Str), ("numbers" : Str)] : List Str), ([("block" : Str), ("at" : Str), ("blocks" : Str)] : List Str), b_place_block⟩
def d_numbered : Df := ⟨(("numbered" : Str), none), "numbered", "numbered", (top 8), ([("body" : Str), ("blocks" : Str), ("whole" : Str), ("behind" : Str), ("k" : Str)] : List Str), ([("body" : Str)] : List Str), b_numbered⟩
def d_Layout_init : Df := ⟨(("Layout" : Str), some ("__init__" : Str)), "__init__", "Layout.__init__", (inClass (top 9) 0), ([("self" : Str), ("program" : Str), ("one" : Str), ("told" : Str), ("k" : Str), ("process" : Str), ("copy" : Str), ("own" : Str)] : List Str), ([("self" : Str), ("program" : Str)] : List Str), b_Layout_init⟩
def d_Layout_spot : Df := ⟨(("Layout" : Str), some ("spot" : Str)), "spot", "Layout.spot", (inClass (top 9) 1), ([("self" : Str), ("hand" : Str), ("name" : Str), ("own" : Str)] : List Str), ([("self" : Str), ("hand" : Str), ("name" : Str)] : List Str), b_Layout_spot⟩
def d_Layout_statement : Df := ⟨(("Layout" : Str), some ("statement" : Str)), "statement", "Layout.statement", (inClass (top 9) 2), ([("self" : Str), ("hand" : Str), ("number" : Str)] : List Str), ([("self" : Str), ("hand" : Str), ("number" : Str)] : List Str), b_Layout_statement⟩
def d_Layout_parts : Df := ⟨(("Layout" : Str), some ("parts" : Str)), "parts", "Layout.parts", (inClass (top 9) 3), ([("self" : Str), ("hand" : Str), ("number" : Str)] : List Str), ([("self" : Str), ("hand" : Str), ("number" : Str)] : List Str), b_Layout_parts⟩
def d_start : Df := ⟨(("_law_start" : Str), none), "_law_start", "_law_start", (top 11), ([("script" : Str), ("cell" : Str)] : List Str), ([("script" : Str)] : List Str), b_start⟩
def d_fill : Df := ⟨(("_law_fill" : Str), none), "_law_fill", "_law_fill", (top 12), ([("c" : Str), ("number" : Str)] : List Str), ([("c" : Str)] : List Str), b_fill⟩
def d_take : Df := ⟨(("_law_take" : Str), none), "_law_take", "_law_take", (top 13), ([("c" : Str), ("many" : Str), ("digit" : Str)] : List Str), ([("c" : Str), ("many" : Str)] : List Str), b_take⟩
def d_pick : Df := ⟨(("_law_pick" : Str), none), "_law_pick", "_law_pick", (top 14), ([("c" : Str), ("row" : Str)] : List Str), ([("c" : Str), ("row" : Str)] : List Str), b_pick⟩
def d_alike : Df := ⟨(("_law_alike" : Str), none), "_law_alike", "_law_alike", (top 15), ([("value" : Str), ("due" : Str), ("k" : Str)] : List Str), ([("value" : Str), ("due" : Str)] : List Str), b_alike⟩
def d_expr : Df := ⟨(("_law_expr" : Str), none), "_law_expr", "_law_expr", (top 16), ([("c" : Str), ("names" : Str), ("deep" : Str), ("kind" : Str), ("sign" : Str)] : List Str), ([("c" : Str), ("names" : Str), ("deep" : Str)] : List Str), b_expr⟩
def d_test : Df := ⟨(("_law_test" : Str), none), "_law_test", "_law_test", (top 17), ([("c" : Str), ("names" : Str)] : List Str), ([("c" : Str), ("names" : Str)] : List Str), b_test⟩
def d_target : Df := ⟨(("_law_target" : Str), none), "_law_target", "_law_target", (top 18), ([("c" : Str), ("names" : Str)] : List Str), ([("c" : Str), ("names" : Str)] : List Str), b_target⟩
def d_plain : Df := ⟨(("_law_plain" : Str), none), "_law_plain", "_law_plain", (top 19), ([("c" : Str), ("names" : Str), ("kind" : Str)] : List Str), ([("c" : Str), ("names" : Str)] : List Str), b_plain⟩
def d_statement : Df := ⟨(("_law_statement" : Str), none), "_law_statement", "_law_statement", (top 20), ([("c" : Str), ("names" : Str), ("deep" : Str), ("kind" : Str), ("first" : Str), ("branches" : Str), ("k" : Str)] : List Str), ([("c" : Str), ("names" : Str), ("deep" : Str)] : List Str), b_statement⟩
def d_block : Df := ⟨(("_law_block" : Str), none), "_law_block", "_law_block", (top 21), ([("c" : Str), ("names" : Str), ("most" : Str), ("deep" : Str), ("k" : Str)] : List Str), ([("c" : Str), ("names" : Str), ("most" : Str), ("deep" : Str)] : List Str), b_block⟩
def d_many : Df := ⟨(("_law_many" : Str), none), "_law_many", "_law_many", (top 22), ([("body" : Str), ("rows" : Str), ("one" : Str)] : List Str), ([("body" : Str)] : List Str), b_many⟩
def d_process : Df := ⟨(("_law_process" : Str), none), "_law_process", "_law_process", (top 23), ([("c" : Str), ("name" : Str), ("copies" : Str), ("names" : Str), ("own" : Str), ("told" : Str), ("body" : Str), ("k" : Str), ("one" : Str)] : List Str), ([("c" : Str), ("name" : Str), ("copies" : Str), ("names" : Str)] : List Str), b_process⟩
def d_program : Df := ⟨(("_law_program" : Str), none), "_law_program", "_law_program", (top 24), ([("c" : Str), ("variables" : Str), ("channels" : Str), ("plain" : Str), ("names" : Str), ("processes" : Str), ("one" : Str)] : List Str), ([("c" : Str)] : List Str), b_program⟩
def d_numbers : Df := ⟨(("_law_numbers" : Str), none), "_law_numbers", "_law_numbers", (top 25), ([("body" : Str), ("at" : Str), ("statements" : Str), ("blocks" : Str), ("found" : Str), ("one" : Str), ("own" : Str), ("parts" : Str), ("part" : Str), ("numbers" : Str), ("test" : Str)] : List Str), ([("body" : Str), ("at" : Str), ("statements" : Str), ("blocks" : Str)] : List Str), b_numbers⟩
def d_told : Df := ⟨(("_law_told" : Str), none), "_law_told", "_law_told", (top 26), ([("program" : Str), ("hands" : Str), ("one" : Str), ("process" : Str), ("cells" : Str), ("ranges" : Str), ("first" : Str), ("own" : Str), ("hand" : Str), ("statements" : Str), ("blocks" : Str), ("bodies" : Str), ("copy" : Str)] : List Str), ([("program" : Str)] : List Str), b_told⟩
def d_deeper : Df := ⟨(("_law_deeper" : Str), none), "_law_deeper", "_law_deeper", (top 27), ([("c" : Str), ("program" : Str), ("own" : Str), ("body" : Str), ("turn" : Str), ("block" : Str)] : List Str), ([("c" : Str), ("program" : Str)] : List Str), b_deeper⟩
def d_are_hands : Df := ⟨(("_law_are_hands" : Str), none), "_law_are_hands", "_law_are_hands", (top 28), ([("program" : Str), ("told" : Str), ("process" : Str), ("one" : Str), ("copy" : Str), ("due" : Str)] : List Str), ([("program" : Str), ("told" : Str)] : List Str), b_are_hands⟩
def d_once : Df := ⟨(("_law_once" : Str), none), "_law_once", "_law_once", (top 29), ([("c" : Str), ("program" : Str), ("one" : Str), ("told" : Str), ("own" : Str), ("k" : Str), ("hand" : Str), ("names" : Str), ("process" : Str), ("copy" : Str), ("number" : Str), ("blocks" : Str)] : List Str), ([("c" : Str)] : List Str), b_once⟩
def d_law : Df := ⟨(("law" : Str), none), "law", "law", (top 30), ([("script" : Str), ("c" : Str), ("turn" : Str)] : List Str), ([("script" : Str)] : List Str), b_law⟩
def L : Lw where
  ds := [d_blocks_of, d_all_statements, d_hands_of, d_hand_number, d_place_block, d_numbered, d_Layout_init, d_Layout_spot, d_Layout_statement, d_Layout_parts, d_start, d_fill, d_take, d_pick, d_alike, d_expr, d_test, d_target, d_plain, d_statement, d_block, d_many, d_process, d_program, d_numbers, d_told, d_deeper, d_are_hands, d_once, d_law]
  cl := ([("Layout" : Str)] : List Str)
  blt := ([("all" : Str), ("bool" : Str), ("dict" : Str), ("enumerate" : Str), ("int" : Str), ("isinstance" : Str), ("len" : Str), ("list" : Str), ("max" : Str), ("range" : Str), ("sorted" : Str), ("str" : Str), ("sum" : Str), ("tuple" : Str)] : List Str)
  flds := ([("blocks" : Str), ("bodies" : Str), ("first" : Str), ("globals" : Str), ("hands" : Str), ("locals" : Str), ("program" : Str), ("queues" : Str), ("ranges" : Str), ("statements" : Str)] : List Str)
  muts := [(20, 12), (35, 12), (54, 49), (54, 53), (60, 22), (88, 11), (184, 11), (185, 32), (197, 16), (205, 16), (210, 12), (215, 22), (217, 16), (229, 12), (232, 59), (232, 63), (236, 17), (237, 16), (243, 34), (243, 38), (243, 42), (245, 26), (246, 22)]
  dts := []
theorem ok_blocks_of : DOk L 200 d_blocks_of := ⟨⟨rfl, rfl, rfl, by decide +kernel, rfl, by decide +kernel, by decide +kernel⟩, by rfl, fun _ _ _ _ _ _ us hl => match us, hl with | [_], _ => rfl⟩
theorem ok_all_statements : DOk L 200 d_all_statements := ⟨⟨rfl, rfl, rfl, by decide +kernel, rfl, by decide +kernel, by decide +kernel⟩, by rfl, fun _ _ _ _ _ _ us hl => match us, hl with | [_], _ => rfl⟩
theorem ok_hands_of : DOk L 200 d_hands_of := ⟨⟨rfl, rfl, rfl, by decide +kernel, rfl, by decide +kernel, by decide +kernel⟩, by rfl, fun _ _ _ _ _ _ us hl => match us, hl with | [_], _ => rfl⟩
theorem ok_hand_number : DOk L 200 d_hand_number := ⟨⟨rfl, rfl, rfl, by decide +kernel, rfl, by decide +kernel, by decide +kernel⟩, by rfl, fun _ _ _ _ _ _ us hl => match us, hl with | [_, _, _], _ => rfl⟩
theorem ok_place_block : DOk L 200 d_place_block := ⟨⟨rfl, rfl, rfl, by decide +kernel, rfl, by decide +kernel, by decide +kernel⟩, by rfl, fun _ _ _ _ _ _ us hl => match us, hl with | [_, _, _], _ => rfl⟩
theorem ok_numbered : DOk L 200 d_numbered := ⟨⟨rfl, rfl, rfl, by decide +kernel, rfl, by decide +kernel, by decide +kernel⟩, by rfl, fun _ _ _ _ _ _ us hl => match us, hl with | [_], _ => rfl⟩
theorem ok_Layout_init : DOk L 200 d_Layout_init := ⟨⟨rfl, rfl, rfl, by decide +kernel, rfl, by decide +kernel, by decide +kernel⟩, by rfl, fun _ _ _ _ _ _ us hl => match us, hl with | [_, _], _ => rfl⟩
theorem ok_Layout_spot : DOk L 200 d_Layout_spot := ⟨⟨rfl, rfl, rfl, by decide +kernel, rfl, by decide +kernel, by decide +kernel⟩, by rfl, fun _ _ _ _ _ _ us hl => match us, hl with | [_, _, _], _ => rfl⟩
theorem ok_Layout_statement : DOk L 200 d_Layout_statement := ⟨⟨rfl, rfl, rfl, by decide +kernel, rfl, by decide +kernel, by decide +kernel⟩, by rfl, fun _ _ _ _ _ _ us hl => match us, hl with | [_, _, _], _ => rfl⟩
theorem ok_Layout_parts : DOk L 200 d_Layout_parts := ⟨⟨rfl, rfl, rfl, by decide +kernel, rfl, by decide +kernel, by decide +kernel⟩, by rfl, fun _ _ _ _ _ _ us hl => match us, hl with | [_, _, _], _ => rfl⟩
theorem ok_start : DOk L 200 d_start := ⟨⟨rfl, rfl, rfl, by decide +kernel, rfl, by decide +kernel, by decide +kernel⟩, by rfl, fun _ _ _ _ _ _ us hl => match us, hl with | [_], _ => rfl⟩
theorem ok_fill : DOk L 200 d_fill := ⟨⟨rfl, rfl, rfl, by decide +kernel, rfl, by decide +kernel, by decide +kernel⟩, by rfl, fun _ _ _ _ _ _ us hl => match us, hl with | [_], _ => rfl⟩
theorem ok_take : DOk L 200 d_take := ⟨⟨rfl, rfl, rfl, by decide +kernel, rfl, by decide +kernel, by decide +kernel⟩, by rfl, fun _ _ _ _ _ _ us hl => match us, hl with | [_, _], _ => rfl⟩
theorem ok_pick : DOk L 200 d_pick := ⟨⟨rfl, rfl, rfl, by decide +kernel, rfl, by decide +kernel, by decide +kernel⟩, by rfl, fun _ _ _ _ _ _ us hl => match us, hl with | [_, _], _ => rfl⟩
theorem ok_alike : DOk L 200 d_alike := ⟨⟨rfl, rfl, rfl, by decide +kernel, rfl, by decide +kernel, by decide +kernel⟩, by rfl, fun _ _ _ _ _ _ us hl => match us, hl with | [_, _], _ => rfl⟩
theorem ok_expr : DOk L 200 d_expr := ⟨⟨rfl, rfl, rfl, by decide +kernel, rfl, by decide +kernel, by decide +kernel⟩, by rfl, fun _ _ _ _ _ _ us hl => match us, hl with | [_, _, _], _ => rfl⟩
theorem ok_test : DOk L 200 d_test := ⟨⟨rfl, rfl, rfl, by decide +kernel, rfl, by decide +kernel, by decide +kernel⟩, by rfl, fun _ _ _ _ _ _ us hl => match us, hl with | [_, _], _ => rfl⟩
theorem ok_target : DOk L 200 d_target := ⟨⟨rfl, rfl, rfl, by decide +kernel, rfl, by decide +kernel, by decide +kernel⟩, by rfl, fun _ _ _ _ _ _ us hl => match us, hl with | [_, _], _ => rfl⟩
theorem ok_plain : DOk L 200 d_plain := ⟨⟨rfl, rfl, rfl, by decide +kernel, rfl, by decide +kernel, by decide +kernel⟩, by rfl, fun _ _ _ _ _ _ us hl => match us, hl with | [_, _], _ => rfl⟩
theorem ok_statement : DOk L 200 d_statement := ⟨⟨rfl, rfl, rfl, by decide +kernel, rfl, by decide +kernel, by decide +kernel⟩, by rfl, fun _ _ _ _ _ _ us hl => match us, hl with | [_, _, _], _ => rfl⟩
theorem ok_block : DOk L 200 d_block := ⟨⟨rfl, rfl, rfl, by decide +kernel, rfl, by decide +kernel, by decide +kernel⟩, by rfl, fun _ _ _ _ _ _ us hl => match us, hl with | [_, _, _, _], _ => rfl⟩
theorem ok_many : DOk L 200 d_many := ⟨⟨rfl, rfl, rfl, by decide +kernel, rfl, by decide +kernel, by decide +kernel⟩, by rfl, fun _ _ _ _ _ _ us hl => match us, hl with | [_], _ => rfl⟩
theorem ok_process : DOk L 200 d_process := ⟨⟨rfl, rfl, rfl, by decide +kernel, rfl, by decide +kernel, by decide +kernel⟩, by rfl, fun _ _ _ _ _ _ us hl => match us, hl with | [_, _, _, _], _ => rfl⟩
theorem ok_program : DOk L 200 d_program := ⟨⟨rfl, rfl, rfl, by decide +kernel, rfl, by decide +kernel, by decide +kernel⟩, by rfl, fun _ _ _ _ _ _ us hl => match us, hl with | [_], _ => rfl⟩
theorem ok_numbers : DOk L 200 d_numbers := ⟨⟨rfl, rfl, rfl, by decide +kernel, rfl, by decide +kernel, by decide +kernel⟩, by rfl, fun _ _ _ _ _ _ us hl => match us, hl with | [_, _, _, _], _ => rfl⟩
theorem ok_told : DOk L 200 d_told := ⟨⟨rfl, rfl, rfl, by decide +kernel, rfl, by decide +kernel, by decide +kernel⟩, by rfl, fun _ _ _ _ _ _ us hl => match us, hl with | [_], _ => rfl⟩
theorem ok_deeper : DOk L 200 d_deeper := ⟨⟨rfl, rfl, rfl, by decide +kernel, rfl, by decide +kernel, by decide +kernel⟩, by rfl, fun _ _ _ _ _ _ us hl => match us, hl with | [_, _], _ => rfl⟩
theorem ok_are_hands : DOk L 200 d_are_hands := ⟨⟨rfl, rfl, rfl, by decide +kernel, rfl, by decide +kernel, by decide +kernel⟩, by rfl, fun _ _ _ _ _ _ us hl => match us, hl with | [_, _], _ => rfl⟩
theorem ok_once : DOk L 200 d_once := ⟨⟨rfl, rfl, rfl, by decide +kernel, rfl, by decide +kernel, by decide +kernel⟩, by rfl, fun _ _ _ _ _ _ us hl => match us, hl with | [_], _ => rfl⟩
theorem ok_law : DOk L 200 d_law := ⟨⟨rfl, rfl, rfl, by decide +kernel, rfl, by decide +kernel, by decide +kernel⟩, by rfl, fun _ _ _ _ _ _ us hl => match us, hl with | [_], _ => rfl⟩
theorem oks : ∀ d ∈ L.ds, DOk L 200 d := by
  intro d hd
  simp only [L, List.mem_cons, List.not_mem_nil, or_false] at hd
  rcases hd with rfl | rfl | rfl | rfl | rfl | rfl | rfl | rfl | rfl | rfl | rfl | rfl | rfl | rfl | rfl | rfl | rfl | rfl | rfl | rfl | rfl | rfl | rfl | rfl | rfl | rfl | rfl | rfl | rfl | rfl
  · exact ok_blocks_of
  · exact ok_all_statements
  · exact ok_hands_of
  · exact ok_hand_number
  · exact ok_place_block
  · exact ok_numbered
  · exact ok_Layout_init
  · exact ok_Layout_spot
  · exact ok_Layout_statement
  · exact ok_Layout_parts
  · exact ok_start
  · exact ok_fill
  · exact ok_take
  · exact ok_pick
  · exact ok_alike
  · exact ok_expr
  · exact ok_test
  · exact ok_target
  · exact ok_plain
  · exact ok_statement
  · exact ok_block
  · exact ok_many
  · exact ok_process
  · exact ok_program
  · exact ok_numbers
  · exact ok_told
  · exact ok_deeper
  · exact ok_are_hands
  · exact ok_once
  · exact ok_law
end K25
set_option Elab.async false
set_option linter.all false
set_option maxRecDepth 100000
set_option maxHeartbeats 1000000
namespace K25
open PySem Mp L2
/-- the law's counter: numbers, place, what is left, how many were filled -/
def Cob (o : Ob) : Prop := ∃ (ns : List Int) (a b e : Int), o = .lst [.lst (ns.map D.int), .int a, .int b, .int e, .int 20] ∧ 0 ≤ a
def Cell (S : Sto) (n : Nat) : Prop := ∃ o, S[n]? = some o ∧ Cob o
/-- only the counter at n has changed -/
def Dr (n : Nat) (S S' : Sto) : Prop := ∃ o, Cob o ∧ S' = S.set n o
theorem Dr.cell {n : Nat} {S S' : Sto} (c : Cell S n) (h : Dr n S S') : Cell S' n := by
  obtain ⟨o, h1, rfl⟩ := h
  obtain ⟨u, h2, _⟩ := c
  exact ⟨o, get_set h2, h1⟩
theorem Dr.trans {n : Nat} {S S1 S2 : Sto} (h : Dr n S S1) (h' : Dr n S1 S2) : Dr n S S2 := by
  obtain ⟨o, _, rfl⟩ := h
  obtain ⟨u, h2, rfl⟩ := h'
  exact ⟨u, h2, List.set_set ..⟩
variable {fuel k : Nat}
abbrev g (fuel : Nat) : Pg := L.pg fuel
theorem fn_fill : (g fuel).fns f_fill = ⟨2, 1, b_fill⟩ := rfl
theorem fn_take : (g fuel).fns f_take = ⟨3, 2, b_take⟩ := rfl
theorem fn_pick : (g fuel).fns f_pick = ⟨2, 2, b_pick⟩ := rfl
/-- the counter's object -/
abbrev cob (ns : List Int) (a b e : Int) : Ob := .lst [.lst (ns.map D.int), .int a, .int b, .int e, .int 20]
/-- the last part of fill -/
theorem fill_end {n : Nat} {S : Sto} {ns : List Int} {a b e z : Int} {K : K2} (hS : S[n]? = some (cob ns a b e)) (h : ∀ (z : Int) σ, K (.rt (.int z)) σ S) :
    wpB (envOf (g fuel) k) (.cons (.asg (.nm 1) (.bin .mod (.bi .int (.cons (.bin .add (.bin .mul (.loc 1) (.cst (.int (48271)))) (.bin .mul (.ix (.loc 0) (.cst (.int (3)))) (.cst (.int (69621))))) .nil)) (.cst (.int (2147483647)))))
  (.cons (.ret (.yes (.bin .add (.bin .fdiv (.bi .int (.cons (.bin .add (.bin .add (.bin .mul (.loc 1) (.loc 1)) (.bin .mul (.ix (.loc 0) (.cst (.int (3)))) (.cst (.int (7919))))) (.cst (.int (11)))) .nil)) (.cst (.int (64)))) (.cst (.int (36028797018963968))))))
  .nil)) [some (.hd n), some (.int z)] K S := by
  have h1 : 0 ≤ (z * 48271 + e * 69621) % 2147483647 := Int.emod_nonneg _ (by decide)
  have h2 : (z * 48271 + e * 69621) % 2147483647 < 2147483647 := Int.emod_lt_of_pos _ (by decide)
  have hs : small ((z * 48271 + e * 69621) % 2147483647) = true := by
    unfold small
    rw [Bool.and_eq_true]
    exact ⟨decide_eq_true (by omega), decide_eq_true (by omega)⟩
  have s1 : small 7919 = true := by decide
  have s2 : small 48271 = true := by decide
  have s3 : small 69621 = true := by decide
  refine b_set (.int ((z * 48271 + e * 69621) % 2147483647)) (by simp [pu, puEs, ix_hd hS, bin_mulR s2, bin_mulR s3, bin_mod]) ?_
  exact b_retP (.int ((((z * 48271 + e * 69621) % 2147483647) * ((z * 48271 + e * 69621) % 2147483647) + e * 7919 + 11) / 64 + 36028797018963968)) (by simp [pu, puEs, ix_hd hS, bin_mulL hs, bin_mulR s1, bin_fdiv]) (h _ _)
/-- .. with the part about the last number ahead -/
theorem fill_mid {n : Nat} {S : Sto} {ns : List Int} {a b e z : Int} {K : K2} (hS : S[n]? = some (cob ns a b e)) (h : ∀ (z : Int) σ, K (.rt (.int z)) σ S) : wpB (envOf (g fuel) k) (.cons (.if_ (.and_ (.ix (.loc 0) (.cst (.int (0)))) (.cmp .ge (.ix (.loc 0) (.cst (.int (1)))) (.bi .len (.cons (.ix (.loc 0) (.cst (.int (0)))) .nil))))
    (.cons (.asg (.nm 1) (.bin .add (.loc 1) (.bin .mod (.bi .int (.cons (.ix (.ix (.loc 0) (.cst (.int (0)))) (.neg (.cst (.int (1))))) .nil)) (.cst (.int (1000003))))))
    .nil)
    .nil)
  (.cons (.asg (.nm 1) (.bin .mod (.bi .int (.cons (.bin .add (.bin .mul (.loc 1) (.cst (.int (48271)))) (.bin .mul (.ix (.loc 0) (.cst (.int (3)))) (.cst (.int (69621))))) .nil)) (.cst (.int (2147483647)))))
  (.cons (.ret (.yes (.bin .add (.bin .fdiv (.bi .int (.cons (.bin .add (.bin .add (.bin .mul (.loc 1) (.loc 1)) (.bin .mul (.ix (.loc 0) (.cst (.int (3)))) (.cst (.int (7919))))) (.cst (.int (11)))) .nil)) (.cst (.int (64)))) (.cst (.int (36028797018963968))))))
  .nil))) [some (.hd n), some (.int z)] K S := by
  cases ns with
  | nil => exact b_ifF (.lst []) (by simp [pu, ix_hd hS]) rfl (b_end (fill_end hS h))
  | cons i is =>
    refine b_ifP (.bl (decide (((i :: is).length : Int) ≤ a))) _ (by simp [pu, puEs, ix_hd hS]) rfl (fun hk => ?_) (fun _ => b_end (fill_end hS h))
    obtain ⟨x, hx, hm⟩ := atI_last (xs := (i :: is).map D.int) (by simp)
    obtain ⟨j, _, rfl⟩ := List.mem_map.mp hm
    refine b_set (.int (z + j % 1000003)) ?_ (b_end (fill_end hS h))
    rw [List.map_cons] at hx
    simp [pu, puEs, ix_hd hS, hx, bin_mod]
theorem sp_fill {n : Nat} {S : Sto} {Q : D → Sto → Prop} (c : Cell S n) (h : ∀ (z : Int) S', Dr n S S' → Q (.int z) S') : wp (run (g fuel) (k + 1) f_fill [.hd n]) Q S := by
  obtain ⟨_, hS, ns, a, b, e, rfl, ha⟩ := c
  refine wp_run fn_fill rfl ?_
  show wpB (envOf (g fuel) k) b_fill [some (.hd n), none] (fun f _ S' => match f with
    | .rt d => Q d S'
    | .nx => Q .non S'
    | _ => False) S
  have hS1 : (S.set n (cob ns a b (e + 1)))[n]? = some (cob ns a b (e + 1)) := get_set hS
  have hs2 : small 69621 = true := by decide
  have hs3 : small 10 = true := by decide
  refine b_sub (.int (e + 1)) (.hd n) (.int 3) (S.set n (cob ns a b (e + 1))) (by simp [pu, ix_hd hS]) rfl rfl (set_hd (j := 3) hS rfl) ?_
  refine b_set (.int ((e + 1) * 69621 + 12345)) (by simp [pu, ix_hd hS1, bin_mulR hs2]) ?_
  have fin : ∀ {S' : Sto} {a' : Int}, 0 ≤ a' → S' = S.set n (cob ns a' b (e + 1)) → ∀ (z : Int) (σ : Sl), Q (.int z) S' := fun {S' a'} ha' hS' z σ => h z S' ⟨_, ⟨ns, a', b, e + 1, rfl, ha'⟩, hS'⟩
  refine b_ifP (.bl (decide (a < ns.length))) _ (by simp [pu, puEs, ix_hd hS1]) rfl (fun hk => ?_) (fun hk => ?_)
  · have hk := of_decide_eq_true hk
    obtain ⟨x, hx, hm⟩ := atI_of (xs := ns.map D.int) ha (by simpa using hk)
    obtain ⟨j, _, rfl⟩ := List.mem_map.mp hm
    have hS2 : ((S.set n (cob ns a b (e + 1))).set n (cob ns (a + 1) b (e + 1)))[n]? = some (cob ns (a + 1) b (e + 1)) := get_set hS1
    have e2 : (S.set n (cob ns a b (e + 1))).set n (cob ns (a + 1) b (e + 1)) = S.set n (cob ns (a + 1) b (e + 1)) := List.set_set ..
    refine b_set (.int j) (by simp [pu, puEs, ix_hd hS1, hx]) ?_
    refine b_sub (.int (a + 1)) (.hd n) (.int 1) ((S.set n (cob ns a b (e + 1))).set n (cob ns (a + 1) b (e + 1))) (by simp [pu, ix_hd hS1]) rfl rfl (set_hd (j := 1) hS1 rfl) ?_
    refine b_ifP (.bl (decide (j < 0))) _ (by simp [pu]) rfl (fun hj => ?_) (fun hj => ?_)
    · refine b_set (.int (0 - 1 - j)) (by simp [pu]) (b_end ?_)
      refine b_ifP (.bl (decide (10 ^ 18 ≤ 0 - 1 - j))) _ (by simp [pu, bin_pow hs3]) rfl (fun _ => b_retP (.int (0 - 1 - j)) (by simp [pu]) (fin (by omega) e2 _ [])) (fun _ => b_end (b_end (fill_mid hS2 (fin (by omega) e2))))
    · refine b_end ?_
      refine b_ifP (.bl (decide (10 ^ 18 ≤ j))) _ (by simp [pu, bin_pow hs3]) rfl (fun _ => b_retP (.int j) (by simp [pu]) (fin (by omega) e2 _ [])) (fun _ => b_end (b_end (fill_mid hS2 (fin (by omega) e2))))
  · exact b_end (fill_mid hS1 (fin ha rfl))

theorem sp_take {n : Nat} {S : Sto} {many : Int} {Q : D → Sto → Prop} (c : Cell S n) (h0 : 0 < many) (h1 : many < 2 ^ 64) (h : ∀ (z : Int) S', 0 ≤ z → z < many → Dr n S S' → Q (.int z) S') : wp (run (g fuel) (k + 2) f_take [.hd n, .int many]) Q S := by
  refine wp_run fn_take rfl ?_
  show wpB (envOf (g fuel) (k + 1)) b_take [some (.hd n), some (.int many), none] (fun f _ S' => match f with
    | .rt d => Q d S'
    | .nx => Q .non S'
    | _ => False) S
  have last : ∀ S1, (∃ ns a b e, S1[n]? = some (cob ns a b e) ∧ 0 ≤ a) → (∀ o, Cob o → Dr n S (S1.set n o)) → wpB (envOf (g fuel) (k + 1)) (.cons (.asg (.nm 2) (.bin .mod (.bi .int (.cons (.ix (.loc 0) (.cst (.int (2)))) .nil)) (.loc 1)))
      (.cons (.asg (.sub (.loc 0) (.cst (.int (2)))) (.bin .fdiv (.ix (.loc 0) (.cst (.int (2)))) (.loc 1)))
      (.cons (.ret (.yes (.loc 2)))
      .nil))) [some (.hd n), some (.int many), none] (fun f _ S' => match f with
    | .rt d => Q d S'
    | .nx => Q .non S'
    | _ => False) S1 := by
    rintro S1 ⟨ns, a, b, e, hS, ha⟩ hd
    refine b_set (.int (b % many)) (by simp [pu, puEs, ix_hd hS, bin_mod h0]) ?_
    refine b_sub (.int (b / many)) (.hd n) (.int 2) (S1.set n (cob ns a (b / many) e)) (by simp [pu, ix_hd hS, bin_fdiv h0 h1]) rfl rfl (set_hd (j := 2) hS rfl) ?_
    exact b_retP (.int (b % many)) (by simp [pu]) (h _ _ (Int.emod_nonneg _ (by omega)) (Int.emod_lt_of_pos _ h0) (hd _ ⟨ns, a, b / many, e, rfl, ha⟩))
  obtain ⟨_, hS, ns, a, b, e, rfl, ha⟩ := id c
  refine b_ifP (.bl (decide (b < many))) _ (by simp [pu, ix_hd hS]) rfl (fun _ => ?_) (fun _ => b_end (last S ⟨ns, a, b, e, hS, ha⟩ fun o ho => ⟨o, ho, rfl⟩))
  refine b_asg ?_
  simp
  refine sp_fill c fun z S1 d1 => ?_
  obtain ⟨_, hS1, ns1, a1, b1, e1, rfl, ha1⟩ := d1.cell c
  refine t_sub (x := .hd n) (y := .int 2) (S' := S1.set n (cob ns1 a1 z e1)) rfl rfl (set_hd (j := 2) hS1 rfl) (b_end (last _ ⟨ns1, a1, z, e1, get_set hS1, ha1⟩ fun o ho => ?_))
  rw [List.set_set]
  exact d1.trans ⟨o, ho, rfl⟩
theorem sp_pick {n : Nat} {S : Sto} {row : D} {xs : List D} {Q : D → Sto → Prop} (c : Cell S n) (hr : row = .lst xs ∨ row = .tup xs) (hne : xs ≠ []) (hl : xs.length ≤ 1000) (h : ∀ x S', x ∈ xs → Dr n S S' → Q x S') : wp (run (g fuel) (k + 3) f_pick [.hd n, row]) Q S := by
  refine wp_run fn_pick rfl ?_
  show wpB (envOf (g fuel) (k + 2)) b_pick [some (.hd n), some row] (fun f _ S' => match f with
    | .rt d => Q d S'
    | .nx => Q .non S'
    | _ => False) S
  have hlen : 0 < xs.length := List.length_pos_iff.mpr hne
  have e1 : lenP S row = some xs.length := by rcases hr with rfl | rfl <;> rfl
  refine b_ret ?_
  simp [e1]
  refine sp_take c (by omega) (by omega) fun z S1 z0 z1 d1 => ?_
  obtain ⟨x, hx, hm⟩ := Mp.atI_of (xs := xs) z0 z1
  exact ⟨x, by rcases hr with rfl | rfl <;> exact hx, h x S1 hm d1⟩
end K25
set_option Elab.async false
set_option linter.all false
set_option maxRecDepth 100000
set_option maxHeartbeats 1000000
namespace K25
open PySem Mp L2
theorem fn_expr : (g fuel).fns f_expr = ⟨5, 3, b_expr⟩ := rfl
theorem fn_test : (g fuel).fns f_test = ⟨2, 2, b_test⟩ := rfl
theorem fn_target : (g fuel).fns f_target = ⟨2, 2, b_target⟩ := rfl
theorem fn_plain : (g fuel).fns f_plain = ⟨3, 2, b_plain⟩ := rfl
/-- names of plain cells, rows, channels -/
structure Nm where
  pl : List Str
  ar : List Str
  ch : List Str
structure Nm.Ok (N : Nm) : Prop where
  pl0 : N.pl ≠ []
  pl1 : N.pl.length ≤ 10
  ar1 : N.ar.length ≤ 10
  ch1 : N.ch.length ≤ 10
def Nm.d (N : Nm) : D := .lst [.lst (N.pl.map D.str), .lst (N.ar.map D.str), .lst (N.ch.map D.str)]
/-- what may stand as a place -/
def Ix (N : Nm) (e : D) : Prop := (∃ i : Int, 0 ≤ i ∧ i < 3 ∧ e = .tup [.str ("num" : Str), .int i]) ∨ ∃ x ∈ N.pl, e = .tup [.str ("name" : Str), .str x]
/-- drawn expressions -/
inductive Ex (N : Nm) : Nat → D → Prop
  | num (n : Nat) (i : Int) : 0 ≤ i → i < 3 → Ex N n (.tup [.str ("num" : Str), .int i])
  | cell (n : Nat) (a : Str) (e : D) : a ∈ N.ar → Ix N e → Ex N n (.tup [.str ("cell" : Str), .str a, e])
  | len (n : Nat) (a : Str) : a ∈ N.ch → Ex N n (.tup [.str ("len" : Str), .str a])
  | me (n : Nat) : Ex N n (.tup [.str ("me" : Str)])
  | name (n : Nat) (x : Str) : x ∈ N.pl → Ex N n (.tup [.str ("name" : Str), .str x])
  | un (n : Nat) (s : Str) (e : D) : s ∈ [("not" : Str), "neg"] → Ex N n e → Ex N (n + 1) (.tup [.str s, e])
  | op (n : Nat) (s : Str) (a b : D) : s ∈ [("+" : Str), "-", "==", "!=", "<", "<=", "and", "or", "*", "/", "mod"] → Ex N n a → Ex N n b → Ex N (n + 1) (.tup [.str ("op" : Str), .str s, a, b])
theorem Ex.up {N : Nm} {n m : Nat} {d : D} (h : Ex N n d) (hm : n ≤ m) : Ex N m d := by
  induction h generalizing m with
  | num n i h1 h2 => exact .num m i h1 h2
  | cell n a e h1 h2 => exact .cell m a e h1 h2
  | len n a h => exact .len m a h
  | me n => exact .me m
  | name n x h => exact .name m x h
  | un n s e h1 h2 ih =>
    cases m with
    | zero => omega
    | succ m => exact .un m s e h1 (ih (by omega))
  | op n s a b h1 h2 h3 i1 i2 =>
    cases m with
    | zero => omega
    | succ m => exact .op m s a b h1 (i1 (by omega)) (i2 (by omega))
theorem slen {n : Nat} (h : n ≤ 1000) : n ≤ sizeLine := Nat.le_of_lt (small1000 h)
theorem mem_str {xs : List Str} {x : D} (h : x ∈ xs.map D.str) : ∃ s, x = .str s ∧ s ∈ xs := by
  obtain ⟨s, h1, rfl⟩ := List.mem_map.mp h
  exact ⟨s, rfl, h1⟩
theorem sl1 : 1 ≤ sizeLine := slen (by decide)
theorem sl2 : 2 ≤ sizeLine := slen (by decide)
theorem sl3 : 3 ≤ sizeLine := slen (by decide)
theorem sl4 : 4 ≤ sizeLine := slen (by decide)
theorem sl11 : 11 ≤ sizeLine := slen (by decide)
section
variable {N : Nm} {n : Nat} {S : Sto} {Q : D → Sto → Prop}
theorem nine {z : Int} (h0 : 0 ≤ z) (h1 : z < 9) : z = 0 ∨ z = 1 ∨ z = 2 ∨ z = 3 ∨ z = 4 ∨ z = 5 ∨ z = 6 ∨ z = 7 ∨ z = 8 := by omega
theorem Nm.ix0 : ixP S N.d (.int 0) = some (.lst (N.pl.map D.str)) := at0
theorem Nm.ix1 : ixP S N.d (.int 1) = some (.lst (N.ar.map D.str)) := at1
theorem Nm.ix2 : ixP S N.d (.int 2) = some (.lst (N.ch.map D.str)) := at2
theorem first_pl (ok : N.Ok) : ∃ x, atI (N.pl.map D.str) 0 = some (.str x) ∧ x ∈ N.pl := by
  have := ok.pl0
  cases h : N.pl with
  | nil => exact absurd h this
  | cons x r => exact ⟨x, at0, by simp⟩
/-- one level of expr -/
theorem expr_step (ok : N.Ok) (deep m : Nat) (hm : m = deep ∨ deep = 0) {k : Nat} {S : Sto} {Q : D → Sto → Prop} (c : Cell S n) (rec : ∀ dd, deep = dd + 1 → ∀ (S : Sto) (Q : D → Sto → Prop), Cell S n → (∀ d S', Ex N dd d → Dr n S S' → Q d S') → wp (run (g fuel) (k + 3) f_expr [.hd n, N.d, .int dd]) Q S)
    (h : ∀ d S', Ex N deep d → Dr n S S' → Q d S') : wp (run (g fuel) (k + 4) f_expr [.hd n, N.d, .int deep]) Q S := by
  refine wp_run fn_expr rfl ?_
  show wpB (envOf (g fuel) (k + 3)) b_expr [some (.hd n), some N.d, some (.int deep), none, none] (fun f _ S' => match f with
    | .rt d => Q d S'
    | .nx => Q .non S'
    | _ => False) S
  refine b_asg ?_
  simp
  refine sp_take c (by decide) (by decide) fun z S1 z0 z1 d1 => t_nm ?_
  have c1 := d1.cell c
  obtain ⟨x0, hx0, mx0⟩ := first_pl ok
  have num : ∀ {σ : Sl}, σ[0]? = some (some (.hd n)) → wp (evE (envOf (g fuel) (k + 3)) (.tup (.cons (.cst (.str ("num" : Str))) (.cons (.call f_take (.cons (.loc 0) (.cons (.cst (.int (3))) .nil))) .nil))) σ) (fun d S' => Q d S') S1 := fun {σ} hσ => by
    simp [hσ]
    exact sp_take c1 (by decide) (by decide) fun z S2 z0 z1 d2 => ⟨sl2, h _ _ (.num _ z z0 z1) (d1.trans d2)⟩
  have name : ∀ {S1 : Sto} {σ : Sl}, Dr n S S1 → σ[0]? = some (some (.hd n)) → σ[1]? = some (some N.d) → wp (evE (envOf (g fuel) (k + 3)) (.tup (.cons (.cst (.str ("name" : Str))) (.cons (.call f_pick (.cons (.loc 0) (.cons (.ix (.loc 1) (.cst (.int (0)))) .nil))) .nil))) σ) (fun d S' => Q d S') S1 := fun {S1 σ} d1 h0 h1 => by
    simp [h0, h1, Nm.ix0]
    refine sp_pick (d1.cell c) (.inl rfl) (by simpa using ok.pl0) (by rw [List.length_map]; exact Nat.le_trans ok.pl1 (by decide)) fun x S2 hx d2 => ⟨sl2, ?_⟩
    obtain ⟨s, rfl, hs⟩ := mem_str hx
    exact h _ _ (.name _ s hs) (d1.trans d2)
  have six : ∀ z : Int, 6 ≤ z → z < 9 → wpB (envOf (g fuel) (k + 3)) (match b_expr with | .cons _ r => r | _ => .nil) [some (.hd n), some N.d, some (.int deep), some (.int z), none] (fun f _ S' => match f with
    | .rt d => Q d S'
    | .nx => Q .non S'
    | _ => False) S1 := fun z h6 h9 => by
    by_cases h0 : deep = 0
    · subst h0
      refine b_ifT (.bl true) ?_ rfl (b_ret (num rfl))
      have e1 : decide (z < 2) = false := decide_eq_false (by omega)
      have e2 : decide ((5 : Int) < z) = true := decide_eq_true (by omega)
      simp [pu, e1, e2]
    · have e1 : decide (z < 2) = false := decide_eq_false (by omega)
      have e2 : decide ((5 : Int) < z) = true := decide_eq_true (by omega)
      have e3 : decide ((deep : Int) = 0) = false := decide_eq_false (by omega)
      have e4 : decide (z = 2) = false := decide_eq_false (by omega)
      have e5 : decide (z = 3) = false := decide_eq_false (by omega)
      have e6 : decide (z = 4) = false := decide_eq_false (by omega)
      have e7 : decide (z < 6) = false := decide_eq_false (by omega)
      obtain ⟨dd, rfl⟩ : ∃ dd, deep = dd + 1 := ⟨deep - 1, by omega⟩
      refine b_ifF (.bl false) (by simp only [pu, List.getElem?_cons_zero, List.getElem?_cons_succ, Option.bind_some, cmp_lt, cmp_gt, cmp_eq, tru_bl, Option.map_some, e1, e2, e3]; rfl) rfl (b_end ?_)
      refine b_ifF (.bl false) (by simp only [pu, List.getElem?_cons_zero, List.getElem?_cons_succ, Option.bind_some, cmp_eq, tru_bl, Option.map_some, e4]; rfl) rfl (b_end ?_)
      refine b_ifF (.bl false) (by simp only [pu, List.getElem?_cons_zero, List.getElem?_cons_succ, Option.bind_some, cmp_eq, tru_bl, Option.map_some, e5]; rfl) rfl (b_end ?_)
      refine b_if ?_
      simp [we_and, e6]
      refine b_end ?_
      refine b_ifF (.bl false) (by simp [pu, e7]) rfl (b_end ?_)
      have rec' := rec dd rfl
      refine b_ifP (.bl (decide (z = 6))) _ (by simp [pu]) rfl (fun _ => ?_) (fun _ => b_end ?_)
      · refine b_ret ?_
        simp
        refine ⟨sl2, sp_pick c1 (.inl rfl) (by simp) (by simp) fun x S2 hx d2 => ?_⟩
        refine rec' _ _ (d2.cell c1) fun d S3 hd d3 => ⟨sl2, h _ _ ?_ (d1.trans (d2.trans d3))⟩
        simp only [List.mem_cons, List.not_mem_nil, or_false] at hx
        rcases hx with rfl | rfl
        · exact .un dd _ d (by simp) hd
        · exact .un dd _ d (by simp) hd
      · refine b_asg ?_
        simp
        refine ⟨sl11, sp_pick c1 (xs := [("+" : Str), "-", "==", "!=", "<", "<=", "and", "or", "*", "/", "mod"].map D.str) (.inl rfl) (by simp) (by simp) fun x S2 hx d2 => t_nm ?_⟩
        obtain ⟨s, rfl, hs⟩ := mem_str hx
        refine b_ret ?_
        simp
        refine rec' _ _ (d2.cell c1) fun a S3 ha d3 => ?_
        refine rec' _ _ (d3.cell (d2.cell c1)) fun b S4 hb d4 => ⟨sl4, h _ _ (.op dd s a b hs ha hb) (d1.trans (d2.trans (d3.trans d4)))⟩
  rcases nine z0 z1 with rfl | rfl | rfl | rfl | rfl | rfl | rfl | rfl | rfl
  · exact b_ifT (.bl true) (by simp [pu]) rfl (b_ret (num rfl))
  · exact b_ifT (.bl true) (by simp [pu]) rfl (b_ret (num rfl))
  · refine b_ifF (.bl false) (by simp [pu]) rfl (b_end ?_)
    cases har : N.ar with
    | nil =>
      have i1 : ∀ S, ixP S N.d (.int 1) = some (.lst []) := fun S => by rw [Nm.ix1, har]; rfl
      refine b_ifF (.lst []) (by simp [pu, i1]) rfl (b_end ?_)
      refine b_ifF (.bl false) (by simp [pu]) rfl (b_end ?_)
      refine b_if ?_
      simp [we_and]
      refine b_end ?_
      exact b_ifT (.bl true) (by simp [pu]) rfl (b_ret (name d1 rfl rfl))
    | cons a r =>
      have i1 : ∀ S, ixP S N.d (.int 1) = some (.lst (.str a :: r.map D.str)) := fun S => by rw [Nm.ix1, har]; rfl
      refine b_ifT (.lst (.str a :: r.map D.str)) (by simp [pu, i1]) rfl (b_ret ?_)
      simp [i1, Nm.ix0, hx0]
      refine ⟨sl2, sl4, sp_pick c1 (.inl rfl) (by simp) (by simp) fun x S2 hx d2 => ⟨sl3, h _ _ (.cell _ a x (by rw [har]; simp) ?_) (d1.trans d2)⟩⟩
      simp only [List.mem_cons, List.not_mem_nil, or_false] at hx
      rcases hx with rfl | rfl | rfl | rfl
      · exact .inl ⟨0, by decide, by decide, rfl⟩
      · exact .inl ⟨1, by decide, by decide, rfl⟩
      · exact .inr ⟨x0, mx0, rfl⟩
      · exact .inl ⟨2, by decide, by decide, rfl⟩
  · refine b_ifF (.bl false) (by simp [pu]) rfl (b_end ?_)
    refine b_ifF (.bl false) (by simp [pu]) rfl (b_end ?_)
    cases hch : N.ch with
    | nil =>
      have i1 : ∀ S, ixP S N.d (.int 2) = some (.lst []) := fun S => by rw [Nm.ix2, hch]; rfl
      refine b_ifF (.lst []) (by simp [pu, i1]) rfl (b_end ?_)
      refine b_if ?_
      simp [we_and]
      refine b_end ?_
      exact b_ifT (.bl true) (by simp [pu]) rfl (b_ret (name d1 rfl rfl))
    | cons a r =>
      have i1 : ∀ S, ixP S N.d (.int 2) = some (.lst (.str a :: r.map D.str)) := fun S => by rw [Nm.ix2, hch]; rfl
      refine b_ifT (.lst (.str a :: r.map D.str)) (by simp [pu, i1]) rfl (b_ret ?_)
      simp [i1]
      exact ⟨sl2, h _ _ (.len _ a (by rw [hch]; simp)) d1⟩
  · refine b_ifF (.bl false) (by simp [pu]) rfl (b_end ?_)
    refine b_ifF (.bl false) (by simp [pu]) rfl (b_end ?_)
    refine b_ifF (.bl false) (by simp [pu]) rfl (b_end ?_)
    refine b_if ?_
    simp [we_and]
    refine sp_take c1 (by decide) (by decide) fun y S2 y0 y1 d2 => ?_
    by_cases hy : y = 0
    · subst hy
      simp
      refine b_ret ?_
      simp
      exact ⟨sl1, h _ _ (.me _) (d1.trans d2)⟩
    · simp [hy]
      refine b_end ?_
      exact b_ifT (.bl true) (by simp [pu]) rfl (b_ret (name (d1.trans d2) rfl rfl))
  · refine b_ifF (.bl false) (by simp [pu]) rfl (b_end ?_)
    refine b_ifF (.bl false) (by simp [pu]) rfl (b_end ?_)
    refine b_ifF (.bl false) (by simp [pu]) rfl (b_end ?_)
    refine b_if ?_
    simp [we_and]
    refine b_end ?_
    exact b_ifT (.bl true) (by simp [pu]) rfl (b_ret (name d1 rfl rfl))
  · exact six 6 (by decide) (by decide)
  · exact six 7 (by decide) (by decide)
  · exact six 8 (by decide) (by decide)
theorem sp_expr (ok : N.Ok) : ∀ (deep : Nat) {k : Nat} {S : Sto} {Q : D → Sto → Prop}, Cell S n → (∀ d S', Ex N deep d → Dr n S S' → Q d S') → wp (run (g fuel) (k + deep + 4) f_expr [.hd n, N.d, .int deep]) Q S
  | 0, k, S, Q, c, h => expr_step ok 0 0 (.inl rfl) c (fun dd z => by omega) h
  | deep + 1, k, S, Q, c, h => by
    have := expr_step (fuel := fuel) (k := k + deep + 1) ok (deep + 1) (deep + 1) (.inl rfl) c (fun dd e S Q c' h' => by
      obtain rfl : deep = dd := by omega
      exact sp_expr ok deep c' h') h
    exact this
theorem sp_test (ok : N.Ok) {k : Nat} (c : Cell S n) (h : ∀ d S', Ex N 2 d → Dr n S S' → Q d S') : wp (run (g fuel) (k + 7) f_test [.hd n, N.d]) Q S := by
  refine wp_run fn_test rfl ?_
  show wpB (envOf (g fuel) (k + 6)) b_test [some (.hd n), some N.d] (fun f _ S' => match f with
    | .rt d => Q d S'
    | .nx => Q .non S'
    | _ => False) S
  refine b_if ?_
  simp
  refine sp_take (k := k + 4) c (by decide) (by decide) fun y S2 y0 y1 d2 => ?_
  by_cases hy : y = 0
  · subst hy
    simp
    refine b_ret ?_
    simp
    exact sp_expr (k := k) ok 2 (d2.cell c) fun d S' h1 h2 => h d S' h1 (d2.trans h2)
  · simp [hy]
    refine b_end (b_ret ?_)
    simp [Nm.ix0]
    refine ⟨sl4, sp_pick (k := k + 3) (d2.cell c) (xs := [("==" : Str), "!=", "<", "<="].map D.str) (.inl rfl) (by simp) (by simp) fun x S3 hx d3 => ?_⟩
    obtain ⟨s, rfl, hs⟩ := mem_str hx
    refine sp_pick (k := k + 3) (d3.cell (d2.cell c)) (.inl rfl) (by simpa using ok.pl0) (by rw [List.length_map]; exact Nat.le_trans ok.pl1 (by decide)) fun x S4 hx d4 => ⟨sl2, ?_⟩
    obtain ⟨t, rfl, ht⟩ := mem_str hx
    refine sp_take (k := k + 4) (d4.cell (d3.cell (d2.cell c))) (by decide) (by decide) fun z S5 z0 z1 d5 => ⟨sl2, sl4, h _ _ (.op 1 s _ _ ?_ (.name 1 t ht) (.num 1 z z0 z1)) (d2.trans (d3.trans (d4.trans d5)))⟩
    simp only [List.mem_cons, List.not_mem_nil, or_false] at hs ⊢
    rcases hs with rfl | rfl | rfl | rfl <;> simp
/-- what a drawn target is -/
inductive Tg (N : Nm) : D → Prop
  | cell (a : Str) (e : D) : a ∈ N.ar → Ix N e → Tg N (.tup [.str ("cell" : Str), .str a, e])
  | name (x : Str) : x ∈ N.pl → Tg N (.tup [.str ("name" : Str), .str x])
theorem sp_target (ok : N.Ok) {k : Nat} (c : Cell S n) (h : ∀ d S', Tg N d → Dr n S S' → Q d S') : wp (run (g fuel) (k + 4) f_target [.hd n, N.d]) Q S := by
  refine wp_run fn_target rfl ?_
  show wpB (envOf (g fuel) (k + 3)) b_target [some (.hd n), some N.d] (fun f _ S' => match f with
    | .rt d => Q d S'
    | .nx => Q .non S'
    | _ => False) S
  obtain ⟨x0, hx0, mx0⟩ := first_pl ok
  have name : ∀ {S1 : Sto}, Dr n S S1 ∨ S1 = S → wpB (envOf (g fuel) (k + 3)) (.cons (.ret (.yes (.tup (.cons (.cst (.str ("name" : Str))) (.cons (.call f_pick (.cons (.loc 0) (.cons (.ix (.loc 1) (.cst (.int (0)))) .nil))) .nil))))) .nil) [some (.hd n), some N.d] (fun f _ S' => match f with
    | .rt d => Q d S'
    | .nx => Q .non S'
    | _ => False) S1 := fun {S1} d1 => by
    have c1 : Cell S1 n := by
      rcases d1 with d1 | rfl
      · exact d1.cell c
      · exact c
    refine b_ret ?_
    simp [Nm.ix0]
    refine sp_pick c1 (.inl rfl) (by simpa using ok.pl0) (by rw [List.length_map]; exact Nat.le_trans ok.pl1 (by decide)) fun x S2 hx d2 => ⟨sl2, ?_⟩
    obtain ⟨s, rfl, hs⟩ := mem_str hx
    refine h _ _ (.name s hs) ?_
    rcases d1 with d1 | rfl
    · exact d1.trans d2
    · exact d2
  refine b_if ?_
  cases har : N.ar with
  | nil =>
    have i1 : ∀ S, ixP S N.d (.int 1) = some (.lst []) := fun S => by rw [Nm.ix1, har]; rfl
    simp [we_and, i1]
    exact b_end (name (.inr rfl))
  | cons a r =>
    have i1 : ∀ S, ixP S N.d (.int 1) = some (.lst (.str a :: r.map D.str)) := fun S => by rw [Nm.ix1, har]; rfl
    simp [we_and, i1]
    refine sp_take c (by decide) (by decide) fun y S2 y0 y1 d2 => ?_
    by_cases hy : y = 0
    · subst hy
      simp
      refine b_ret ?_
      simp [i1, Nm.ix0, hx0]
      refine ⟨sl2, sl3, sp_pick (d2.cell c) (.inl rfl) (by simp) (by simp) fun x S3 hx d3 => ⟨sl3, h _ _ (.cell a x (by rw [har]; simp) ?_) (d2.trans d3)⟩⟩
      simp only [List.mem_cons, List.not_mem_nil, or_false] at hx
      rcases hx with rfl | rfl | rfl
      · exact .inl ⟨0, by decide, by decide, rfl⟩
      · exact .inl ⟨1, by decide, by decide, rfl⟩
      · exact .inr ⟨x0, mx0, rfl⟩
    · simp [hy]
      exact b_end (name (.inl d2))
/-- plain statements -/
inductive Pl (N : Nm) : D → Prop
  | skip : Pl N (.tup [.str ("skip" : Str)])
  | pick (t : D) (i : Int) : Tg N t → 1 ≤ i → i ≤ 2 → Pl N (.tup [.str ("pick" : Str), t, .int 0, .int i])
  | asr (e : D) : Ex N 2 e → Pl N (.tup [.str ("assert" : Str), e])
  | set (t e : D) : Tg N t → Ex N 2 e → Pl N (.tup [.str ("set" : Str), t, e])
theorem eight {z : Int} (h0 : 0 ≤ z) (h1 : z < 8) : z = 0 ∨ z = 1 ∨ z = 2 ∨ z = 3 ∨ z = 4 ∨ (5 ≤ z ∧ z < 8) := by omega
theorem sp_plain (ok : N.Ok) {k : Nat} (c : Cell S n) (h : ∀ d S', Pl N d → Dr n S S' → Q d S') : wp (run (g fuel) (k + 8) f_plain [.hd n, N.d]) Q S := by
  refine wp_run fn_plain rfl ?_
  show wpB (envOf (g fuel) (k + 7)) b_plain [some (.hd n), some N.d, none] (fun f _ S' => match f with
    | .rt d => Q d S'
    | .nx => Q .non S'
    | _ => False) S
  refine b_asg ?_
  simp
  refine sp_take (k := k + 5) c (by decide) (by decide) fun z S1 z0 z1 d1 => t_nm ?_
  have c1 := d1.cell c
  have set5 : ∀ {S1 : Sto} {z : Int}, Dr n S S1 → wp (evE (envOf (g fuel) (k + 7)) (.tup (.cons (.cst (.str ("set" : Str))) (.cons (.call f_target (.cons (.loc 0) (.cons (.loc 1) .nil))) (.cons (.tup (.cons (.cst (.str ("num" : Str))) (.cons (.call f_take (.cons (.loc 0) (.cons (.cst (.int (2))) .nil))) .nil))) .nil)))) [some (.hd n), some N.d, some (.int z)]) (fun d S' => Q d S') S1 := fun {S1 z} d1 => by
    simp
    refine sp_target (k := k + 3) ok (d1.cell c) fun t S2 ht d2 => ?_
    exact sp_take (k := k + 5) (d2.cell (d1.cell c)) (by decide) (by decide) fun y S3 y0 y1 d3 => ⟨sl2, sl3, h _ _ (.set t _ ht (.num 2 y y0 (by omega))) (d1.trans (d2.trans d3))⟩
  rcases eight z0 z1 with rfl | rfl | rfl | rfl | rfl | ⟨z5, z8⟩
  · refine b_ifT (.bl true) (by simp [pu]) rfl (b_ret ?_)
    simp
    exact ⟨sl1, h _ _ .skip d1⟩
  · refine b_ifF (.bl false) (by simp [pu]) rfl (b_end ?_)
    refine b_ifT (.bl true) (by simp [pu]) rfl (b_ret ?_)
    simp
    refine sp_target (k := k + 3) ok c1 fun t S2 ht d2 => ?_
    refine sp_take (k := k + 5) (d2.cell c1) (by decide) (by decide) fun y S3 y0 y1 d3 => ?_
    simp
    exact ⟨sl4, h _ _ (.pick t (y + 1) ht (by omega) (by omega)) (d1.trans (d2.trans d3))⟩
  · refine b_ifF (.bl false) (by simp [pu]) rfl (b_end ?_)
    refine b_ifF (.bl false) (by simp [pu]) rfl (b_end ?_)
    refine b_if ?_
    simp [we_and]
    refine sp_take (k := k + 5) c1 (by decide) (by decide) fun y S2 y0 y1 d2 => ?_
    by_cases hy : y = 0
    · subst hy
      simp
      refine b_ret ?_
      simp
      exact sp_test (k := k) ok (d2.cell c1) fun e S3 he d3 => ⟨sl2, h _ _ (.asr e he) (d1.trans (d2.trans d3))⟩
    · simp [hy]
      refine b_end ?_
      exact b_ifT (.bl true) (by simp [pu]) rfl (b_ret (set5 (d1.trans d2)))
  · refine b_ifF (.bl false) (by simp [pu]) rfl (b_end ?_)
    refine b_ifF (.bl false) (by simp [pu]) rfl (b_end ?_)
    refine b_if ?_
    simp [we_and]
    refine b_end ?_
    exact b_ifT (.bl true) (by simp [pu]) rfl (b_ret (set5 d1))
  · refine b_ifF (.bl false) (by simp [pu]) rfl (b_end ?_)
    refine b_ifF (.bl false) (by simp [pu]) rfl (b_end ?_)
    refine b_if ?_
    simp [we_and]
    refine b_end ?_
    exact b_ifT (.bl true) (by simp [pu]) rfl (b_ret (set5 d1))
  · have e1 : ¬ z = 0 := by omega
    have e2 : ¬ z = 1 := by omega
    have e3 : ¬ z = 2 := by omega
    have e4 : ¬ z < 5 := by omega
    refine b_ifF (.bl false) (by simp [pu, e1]) rfl (b_end ?_)
    refine b_ifF (.bl false) (by simp [pu, e2]) rfl (b_end ?_)
    refine b_if ?_
    simp [we_and, e3]
    refine b_end ?_
    refine b_ifF (.bl false) (by simp [pu, e4]) rfl (b_end (b_ret ?_))
    simp
    refine sp_target (k := k + 3) ok c1 fun t S2 ht d2 => ?_
    exact sp_expr (k := k + 2) ok 1 (d2.cell c1) fun e S3 he d3 => ⟨sl3, h _ _ (.set t e ht (he.up (by decide))) (d1.trans (d2.trans d3))⟩
end
end K25
set_option Elab.async false
set_option linter.all false
set_option maxRecDepth 100000
set_option maxHeartbeats 1000000
namespace K25
open PySem Mp L2
theorem fn_statement : (g fuel).fns f_statement = ⟨7, 3, b_statement⟩ := rfl
theorem fn_block : (g fuel).fns f_block = ⟨5, 4, b_block⟩ := rfl
theorem Dr.refl {n : Nat} {S : Sto} (c : Cell S n) : Dr n S S := by
  obtain ⟨o, h, ho⟩ := c
  refine ⟨o, ho, ?_⟩
  obtain ⟨hl, rfl⟩ := List.getElem?_eq_some_iff.mp h
  exact (List.set_getElem_self hl).symm
/-- items drawn one behind another -/
theorem comp_draw {P : En} {n j v : Nat} {e : E} {σ0 : Sl} {S : Sto} {Q : List D → Sto → Prop} {PP : D → Prop} {fuel : Nat} (c : Cell S n) (body : ∀ (i : Nat) S1, Cell S1 n → wp (evE P e (σ0.set v (some (.int (i : Int))))) (fun d S2 => PP d ∧ Dr n S1 S2) S1)
    (h : ∀ xs S', xs.length = j → (∀ x ∈ xs, PP x) → Dr n S S' → Q xs S') : wp (atCap (.st (rngD 0 j)) fuel fun k => loopC (.st (rngD 0 j)) (fun x => evT P (.nm v) x σ0) (fun σ => evC P .no σ) (fun σ => evE P e σ) k 0) Q S := by
  refine wp_comp_rg (fun i acc S' => Dr n S S' ∧ acc.length = i ∧ ∀ x ∈ acc, PP x) ⟨Dr.refl c, rfl, fun x h => by cases h⟩ (fun i acc S' hi h1 => ?_) (fun acc S' h1 => h acc S' h1.2.1 h1.2.2 h1.1)
  obtain ⟨d1, h2, h3⟩ := h1
  refine t_nm ?_
  simp
  refine wp_mono (body i S' (d1.cell c)) fun d S2 h4 => ⟨d1.trans h4.2, h2, fun x hx => ?_⟩
  rcases hx with hx | rfl
  · exact h3 x hx
  · exact h4.1
/-- statements without blocks -/
inductive Leaf (N : Nm) : D → Prop
  | plain (d : D) : Pl N d → Leaf N d
  | mark (s : Str) : s ∈ [("m" : Str), "n"] → Leaf N (.tup [.str ("mark" : Str), .str s])
  | wait (e : D) : Ex N 2 e → Leaf N (.tup [.str ("wait" : Str), e])
  | send (q : Str) (e : D) : q ∈ N.ch → Ex N 2 e → Leaf N (.tup [.str ("send" : Str), .str q, e])
  | receive (q : Str) (t : D) : q ∈ N.ch → Tg N t → Leaf N (.tup [.str ("receive" : Str), .str q, t])
  | stop : Leaf N (.tup [.str ("stop" : Str)])
  | atomic (xs : List D) : xs.length ≤ 3 → xs ≠ [] → (∀ x ∈ xs, Pl N x ∨ ∃ e, Ex N 2 e ∧ x = .tup [.str ("wait" : Str), e]) → Leaf N (.tup [.str ("atomic" : Str), .tup xs])
/-- statements -/
def St (N : Nm) : Nat → D → Prop
  | 0, d => Leaf N d
  | n + 1, d => Leaf N d ∨
    (∃ bs e, d = .tup [.str ("if" : Str), .tup bs, e] ∧ bs ≠ [] ∧ bs.length ≤ 2 ∧ (∀ b ∈ bs, ∃ t ys, b = .tup [t, .tup ys] ∧ Ex N 2 t ∧ ys.length ≤ 2 ∧ ∀ y ∈ ys, St N n y) ∧ (e = .non ∨ ∃ ys, e = .tup ys ∧ ys.length ≤ 2 ∧ ∀ y ∈ ys, St N n y)) ∨
    (∃ bs, d = .tup [.str ("choose" : Str), .tup bs] ∧ bs ≠ [] ∧ bs.length ≤ 2 ∧ ∀ b ∈ bs, ∃ ys, b = .tup ys ∧ ys.length ≤ 2 ∧ ∀ y ∈ ys, St N n y) ∨
    ∃ t ys, d = .tup [.str ("while" : Str), t, .tup ys] ∧ Ex N 2 t ∧ ys.length ≤ 2 ∧ ∀ y ∈ ys, St N n y
section
variable {N : Nm} {n : Nat} {S : Sto} {Q : D → Sto → Prop}
theorem sp_block (ok : N.Ok) {k deep : Nat} (c : Cell S n) (rec : ∀ (S : Sto) (Q : D → Sto → Prop), Cell S n → (∀ d S', St N deep d → Dr n S S' → Q d S') → wp (run (g fuel) (k + 2) f_statement [.hd n, N.d, .int deep]) Q S)
    (h : ∀ ys S', ys.length ≤ 2 → (∀ y ∈ ys, St N deep y) → Dr n S S' → Q (.tup ys) S') : wp (run (g fuel) (k + 3) f_block [.hd n, N.d, .int 2, .int deep]) Q S := by
  refine wp_run fn_block rfl ?_
  show wpB (envOf (g fuel) (k + 2)) b_block [some (.hd n), some N.d, some (.int 2), some (.int deep), none] (fun f _ S' => match f with
    | .rt d => Q d S'
    | .nx => Q .non S'
    | _ => False) S
  refine b_ret ?_
  simp
  refine wi_rng1 ?_
  simp
  refine sp_take c (by decide) (by decide) fun z S1 z0 z1 d1 => ⟨z, rfl, ⟨by omega, by omega⟩, ?_⟩
  refine comp_draw (d1.cell c) (PP := St N deep) (fun i S2 c2 => ?_) (fun xs S2 hl hx d2 => ⟨slen (by omega), h xs S2 (by omega) hx (d1.trans d2)⟩)
  simp [wipeD]
  exact rec S2 _ c2 fun d S3 h3 d3 => ⟨h3, d3⟩
theorem fourteen {z : Int} (h0 : 0 ≤ z) (h1 : z < 14) : (z < 5) ∨ z = 5 ∨ z = 6 ∨ z = 7 ∨ z = 8 ∨ z = 9 ∨ z = 10 ∨ z = 11 ∨ z = 12 ∨ z = 13 := by omega
theorem St.leaf {N : Nm} {n : Nat} {d : D} (h : Leaf N d) : St N n d := by
  cases n with
  | zero => exact h
  | succ n => exact .inl h
theorem stm_step (ok : N.Ok) (deep : Nat) {k : Nat} (c : Cell S n) (rec : ∀ dd, deep = dd + 1 → ∀ (S : Sto) (Q : D → Sto → Prop), Cell S n → (∀ ys S', ys.length ≤ 2 → (∀ y ∈ ys, St N dd y) → Dr n S S' → Q (.tup ys) S') → wp (run (g fuel) (k + 8) f_block [.hd n, N.d, .int 2, .int dd]) Q S)
    (h : ∀ d S', St N deep d → Dr n S S' → Q d S') : wp (run (g fuel) (k + 9) f_statement [.hd n, N.d, .int deep]) Q S := by
  refine wp_run fn_statement rfl ?_
  show wpB (envOf (g fuel) (k + 8)) b_statement [some (.hd n), some N.d, some (.int deep), none, none, none, none] (fun f _ S' => match f with
    | .rt d => Q d S'
    | .nx => Q .non S'
    | _ => False) S
  refine b_asg ?_
  simp
  refine sp_take (k := k + 6) c (by decide) (by decide) fun z S1 z0 z1 d1 => t_nm ?_
  have c1 := d1.cell c
  have plain : ∀ {S1 : Sto} {σ : Sl}, Dr n S S1 → σ[0]? = some (some (.hd n)) → σ[1]? = some (some N.d) → wp (evE (envOf (g fuel) (k + 8)) (.call f_plain (.cons (.loc 0) (.cons (.loc 1) .nil))) σ) (fun d S' => Q d S') S1 := fun {S1 σ} d1 h0 h1 => by
    simp [h0, h1]
    exact sp_plain (k := k) ok (d1.cell c) fun d S2 hd d2 => h _ _ (.leaf (.plain d hd)) (d1.trans d2)
  -- from the test for deep == 0 on
  have late : ∀ {S1 : Sto} {z : Int}, Dr n S S1 → 8 ≤ z → z < 14 → ¬ z = 10 → wpB (envOf (g fuel) (k + 8)) (match b_statement with | .cons _ (.cons _ (.cons _ (.cons _ (.cons _ (.cons _ (.cons _ (.cons _ r))))))) => r | _ => .nil) [some (.hd n), some N.d, some (.int deep), some (.int z), none, none, none] (fun f _ S' => match f with
      | .rt d => Q d S'
      | .nx => Q .non S'
      | _ => False) S1 := fun {S1 z} d1 z8 z14 z10 => by
    have c1 := d1.cell c
    by_cases h0 : deep = 0
    · subst h0
      exact b_ifT (.bl true) (by simp [pu]) rfl (b_ret (plain d1 rfl rfl))
    · obtain ⟨dd, rfl⟩ : ∃ dd, deep = dd + 1 := ⟨deep - 1, by omega⟩
      have rec' := rec dd rfl
      have e3 : ¬ ((dd : Int) + 1 = 0) := by omega
      refine b_ifF (.bl false) (by simp [pu, e3]) rfl (b_end ?_)
      refine b_ifP (.bl (decide (z = 11))) _ (by simp [pu]) rfl (fun _ => ?_) (fun h11 => b_end ?_)
      · refine b_asg ?_
        simp
        refine wi_rng1 ?_
        simp
        refine sp_take (k := k + 6) c1 (by decide) (by decide) fun y S2 y0 y1 d2 => ?_
        simp
        refine ⟨⟨by omega, by omega⟩, ?_⟩
        refine comp_draw (d2.cell c1) (PP := fun b => ∃ t ys, b = .tup [t, .tup ys] ∧ Ex N 2 t ∧ ys.length ≤ 2 ∧ ∀ y ∈ ys, St N dd y) (fun i S3 c3 => ?_) (fun bs S3 hl hb d3 => ?_)
        · simp [wipeD]
          refine sp_test (k := k + 1) ok c3 fun t S4 ht d4 => ?_
          exact rec' _ _ (d4.cell c3) fun ys S5 hl hy d5 => ⟨sl2, ⟨t, ys, ⟨rfl, rfl⟩, ht, hl, hy⟩, d4.trans d5⟩
        · refine ⟨slen (by omega), t_nm (b_ret ?_)⟩
          simp [we_ite]
          have c3 := d3.cell (d2.cell c1)
          have ne : bs ≠ [] := fun z => by rw [z] at hl; simp at hl; omega
          refine sp_take (k := k + 6) c3 (by decide) (by decide) fun y2 S4 _ _ d4 => ?_
          have fin : ∀ {S5 : Sto} {e : D}, Dr n S4 S5 → (e = .non ∨ ∃ ys, e = .tup ys ∧ ys.length ≤ 2 ∧ ∀ y ∈ ys, St N dd y) → Q (.tup [.str ("if" : Str), .tup bs, e]) S5 := fun {S5 e} d5 he => h _ _ (.inr (.inl ⟨bs, e, rfl, ne, by omega, hb, he⟩)) (d1.trans (d2.trans (d3.trans (d4.trans d5))))
          by_cases hy : y2 = 0
          · subst hy
            simp
            exact rec' _ _ (d4.cell c3) fun ys S5 hl hy d5 => ⟨sl3, fin d5 (.inr ⟨ys, rfl, hl, hy⟩)⟩
          · simp [hy]
            exact ⟨sl3, fin (Dr.refl (d4.cell c3)) (.inl rfl)⟩
      · refine b_ifP (.bl (decide (z = 12))) _ (by simp [pu]) rfl (fun _ => ?_) (fun h12 => b_end ?_)
        · refine b_ret ?_
          simp
          refine wi_rng1 ?_
          simp
          refine sp_take (k := k + 6) c1 (by decide) (by decide) fun y S2 y0 y1 d2 => ?_
          simp
          refine ⟨⟨by omega, by omega⟩, ?_⟩
          refine comp_draw (d2.cell c1) (PP := fun b => ∃ ys, b = .tup ys ∧ ys.length ≤ 2 ∧ ∀ y ∈ ys, St N dd y) (fun i S3 c3 => ?_) (fun bs S3 hl hb d3 => ?_)
          · simp [wipeD]
            exact rec' _ _ c3 fun ys S5 hl hy d5 => ⟨⟨ys, rfl, hl, hy⟩, d5⟩
          · have ne : bs ≠ [] := fun z => by rw [z] at hl; simp at hl; omega
            exact ⟨slen (by omega), sl2, h _ _ (.inr (.inr (.inl ⟨bs, rfl, ne, by omega, hb⟩))) (d1.trans (d2.trans d3))⟩
        · refine b_ret ?_
          simp
          refine sp_test (k := k + 1) ok c1 fun t S4 ht d4 => ?_
          exact rec' _ _ (d4.cell c1) fun ys S5 hl hy d5 => ⟨sl3, h _ _ (.inr (.inr (.inr ⟨t, ys, rfl, ht, hl, hy⟩))) (d1.trans (d4.trans d5))⟩
  rcases fourteen z0 z1 with z5 | rfl | rfl | rfl | rfl | rfl | rfl | rfl | rfl | rfl
  · exact b_ifT (.bl true) (by simp [pu, z5]) rfl (b_ret (plain d1 rfl rfl))
  · refine b_ifF (.bl false) (by simp [pu]) rfl (b_end ?_)
    refine b_ifT (.bl true) (by simp [pu]) rfl (b_ret ?_)
    simp
    refine ⟨sl2, sp_pick (k := k + 5) c1 (xs := [("m" : Str), "n"].map D.str) (.inl rfl) (by simp) (by simp) fun x S2 hx d2 => ⟨sl2, ?_⟩⟩
    obtain ⟨s, rfl, hs⟩ := mem_str hx
    exact h _ _ (.leaf (.mark s hs)) (d1.trans d2)
  · refine b_ifF (.bl false) (by simp [pu]) rfl (b_end ?_)
    refine b_ifF (.bl false) (by simp [pu]) rfl (b_end ?_)
    refine b_ifT (.bl true) (by simp [pu]) rfl (b_ret ?_)
    simp
    exact sp_test (k := k + 1) ok c1 fun e S2 he d2 => ⟨sl2, h _ _ (.leaf (.wait e he)) (d1.trans d2)⟩
  · refine b_ifF (.bl false) (by simp [pu]) rfl (b_end ?_)
    refine b_ifF (.bl false) (by simp [pu]) rfl (b_end ?_)
    refine b_ifT (.bl true) (by simp [pu]) rfl (b_ret ?_)
    simp
    exact sp_test (k := k + 1) ok c1 fun e S2 he d2 => ⟨sl2, h _ _ (.leaf (.wait e he)) (d1.trans d2)⟩
  · refine b_ifF (.bl false) (by simp [pu]) rfl (b_end ?_)
    refine b_ifF (.bl false) (by simp [pu]) rfl (b_end ?_)
    refine b_ifF (.bl false) (by simp [pu]) rfl (b_end ?_)
    cases hch : N.ch with
    | nil =>
      have i1 : ∀ S, ixP S N.d (.int 2) = some (.lst []) := fun S => by rw [Nm.ix2, hch]; rfl
      refine b_ifF (.lst []) (by simp [pu, i1]) rfl (b_end ?_)
      refine b_ifF (.bl false) (by simp [pu]) rfl (b_end ?_)
      refine b_if ?_
      simp [we_and]
      refine b_end ?_
      refine b_ifF (.bl false) (by simp [pu]) rfl (b_end ?_)
      exact late d1 (by decide) (by decide) (by decide)
    | cons a r =>
      have i1 : ∀ S, ixP S N.d (.int 2) = some (.lst (.str a :: r.map D.str)) := fun S => by rw [Nm.ix2, hch]; rfl
      refine b_ifT (.lst (.str a :: r.map D.str)) (by simp [pu, i1]) rfl (b_ret ?_)
      simp [i1]
      exact sp_expr (k := k + 4) ok 0 c1 fun e S2 he d2 => ⟨sl3, h _ _ (.leaf (.send a e (by rw [hch]; simp) (he.up (by decide)))) (d1.trans d2)⟩
  · refine b_ifF (.bl false) (by simp [pu]) rfl (b_end ?_)
    refine b_ifF (.bl false) (by simp [pu]) rfl (b_end ?_)
    refine b_ifF (.bl false) (by simp [pu]) rfl (b_end ?_)
    refine b_ifF (.bl false) (by simp [pu]) rfl (b_end ?_)
    cases hch : N.ch with
    | nil =>
      have i1 : ∀ S, ixP S N.d (.int 2) = some (.lst []) := fun S => by rw [Nm.ix2, hch]; rfl
      refine b_ifF (.lst []) (by simp [pu, i1]) rfl (b_end ?_)
      refine b_if ?_
      simp [we_and]
      refine b_end ?_
      refine b_ifF (.bl false) (by simp [pu]) rfl (b_end ?_)
      exact late d1 (by decide) (by decide) (by decide)
    | cons a r =>
      have i1 : ∀ S, ixP S N.d (.int 2) = some (.lst (.str a :: r.map D.str)) := fun S => by rw [Nm.ix2, hch]; rfl
      refine b_ifT (.lst (.str a :: r.map D.str)) (by simp [pu, i1]) rfl (b_ret ?_)
      simp [i1]
      exact sp_target (k := k + 4) ok c1 fun t S2 ht d2 => ⟨sl3, h _ _ (.leaf (.receive a t (by rw [hch]; simp) ht)) (d1.trans d2)⟩
  · refine b_ifF (.bl false) (by simp [pu]) rfl (b_end ?_)
    refine b_ifF (.bl false) (by simp [pu]) rfl (b_end ?_)
    refine b_ifF (.bl false) (by simp [pu]) rfl (b_end ?_)
    refine b_ifF (.bl false) (by simp [pu]) rfl (b_end ?_)
    refine b_ifF (.bl false) (by simp [pu]) rfl (b_end ?_)
    refine b_if ?_
    simp [we_and]
    refine sp_take (k := k + 6) c1 (by decide) (by decide) fun y S2 y0 y1 d2 => ?_
    by_cases hy : y = 0
    · subst hy
      simp
      refine b_ret ?_
      simp
      exact ⟨sl1, h _ _ (.leaf .stop) (d1.trans d2)⟩
    · simp [hy]
      refine b_end ?_
      refine b_ifT (.bl true) (by simp [pu]) rfl ?_
      have c2 := d2.cell c1
      refine b_asg ?_
      simp [we_ite]
      have rest : ∀ {S3 : Sto} {f : List D} {K : K2}, (∀ d σ S', Q d S' → K (.rt d) σ S') → Dr n S2 S3 → f.length ≤ 1 → (∀ x ∈ f, ∃ e, Ex N 2 e ∧ x = .tup [.str ("wait" : Str), e]) → wpB (envOf (g fuel) (k + 8)) (.cons (.ret (.yes (.tup (.cons (.cst (.str ("atomic" : Str))) (.cons (.bi .tuple (.cons (.bin .add (.loc 4) (.comp false [6] (.nm 6) (.rng (.cons (.bin .add (.cst (.int (1))) (.call f_take (.cons (.loc 0) (.cons (.cst (.int (2))) .nil)))) .nil)) .no (.call f_plain (.cons (.loc 0) (.cons (.loc 1) .nil))))) .nil)) .nil)))))
          .nil) [some (.hd n), some N.d, some (.int deep), some (.int 10), some (.lst f), none, none] K S3 := fun {S3 f K} hK d3 hf hm => by
        have c3 := d3.cell c2
        refine b_ret ?_
        simp
        refine wi_rng1 ?_
        simp
        refine sp_take (k := k + 6) c3 (by decide) (by decide) fun y S4 y0 y1 d4 => ?_
        simp
        refine ⟨⟨by omega, by omega⟩, ?_⟩
        refine comp_draw (d4.cell c3) (PP := fun b => Pl N b) (fun i S5 c5 => ?_) (fun xs S5 hl hb d5 => ?_)
        · simp [wipeD]
          exact sp_plain (k := k) ok c5 fun d S6 hd d6 => ⟨hd, d6⟩
        · refine ⟨slen (by omega), .lst (f ++ xs), bin_addL rfl rfl (slen (by omega)), ?_⟩
          simp
          refine ⟨sl2, hK _ _ _ (h _ _ (.leaf (.atomic (f ++ xs) (by rw [List.length_append]; omega) (fun z => ?_) fun x hx => ?_)) (d1.trans (d2.trans (d3.trans (d4.trans d5)))))⟩
          · have h1 := congrArg List.length z
            simp only [List.length_append, List.length_nil] at h1
            omega
          · rcases List.mem_append.mp hx with hx | hx
            · exact .inr (hm x hx)
            · exact .inl (hb x hx)
      refine sp_take (k := k + 6) c2 (by decide) (by decide) fun y S3 y0 y1 d3 => ?_
      by_cases hy : y = 0
      · subst hy
        simp
        refine sp_test (k := k + 1) ok (d3.cell c2) fun e S4 he d4 => ⟨sl2, sl1, t_nm ?_⟩
        exact rest (f := [.tup [.str ("wait" : Str), e]]) (fun d σ S' q => q) (d3.trans d4) (by simp) fun x hx => ⟨e, he, by simpa using hx⟩
      · simp [hy]
        exact t_nm (rest (f := []) (fun d σ S' q => q) d3 (by simp) fun x hx => by cases hx)
  · refine b_ifF (.bl false) (by simp [pu]) rfl (b_end ?_)
    refine b_ifF (.bl false) (by simp [pu]) rfl (b_end ?_)
    refine b_ifF (.bl false) (by simp [pu]) rfl (b_end ?_)
    refine b_ifF (.bl false) (by simp [pu]) rfl (b_end ?_)
    refine b_ifF (.bl false) (by simp [pu]) rfl (b_end ?_)
    refine b_if ?_
    simp [we_and]
    refine b_end ?_
    refine b_ifF (.bl false) (by simp [pu]) rfl (b_end ?_)
    exact late d1 (by decide) (by decide) (by decide)
  · refine b_ifF (.bl false) (by simp [pu]) rfl (b_end ?_)
    refine b_ifF (.bl false) (by simp [pu]) rfl (b_end ?_)
    refine b_ifF (.bl false) (by simp [pu]) rfl (b_end ?_)
    refine b_ifF (.bl false) (by simp [pu]) rfl (b_end ?_)
    refine b_ifF (.bl false) (by simp [pu]) rfl (b_end ?_)
    refine b_if ?_
    simp [we_and]
    refine b_end ?_
    refine b_ifF (.bl false) (by simp [pu]) rfl (b_end ?_)
    exact late d1 (by decide) (by decide) (by decide)
  · refine b_ifF (.bl false) (by simp [pu]) rfl (b_end ?_)
    refine b_ifF (.bl false) (by simp [pu]) rfl (b_end ?_)
    refine b_ifF (.bl false) (by simp [pu]) rfl (b_end ?_)
    refine b_ifF (.bl false) (by simp [pu]) rfl (b_end ?_)
    refine b_ifF (.bl false) (by simp [pu]) rfl (b_end ?_)
    refine b_if ?_
    simp [we_and]
    refine b_end ?_
    refine b_ifF (.bl false) (by simp [pu]) rfl (b_end ?_)
    exact late d1 (by decide) (by decide) (by decide)
theorem sp_statement (ok : N.Ok) : ∀ (deep : Nat) {k : Nat} {S : Sto} {Q : D → Sto → Prop}, Cell S n → (∀ d S', St N deep d → Dr n S S' → Q d S') → wp (run (g fuel) (k + 2 * deep + 9) f_statement [.hd n, N.d, .int deep]) Q S
  | 0, k, S, Q, c, h => stm_step ok 0 c (fun dd e => by omega) h
  | deep + 1, k, S, Q, c, h => by
    have := stm_step (fuel := fuel) (k := k + 2 * deep + 2) ok (deep + 1) c (fun dd e S Q c' h' => by
      obtain rfl : deep = dd := by omega
      exact sp_block (k := k + 2 * deep + 7) ok c' (fun S Q c'' h'' => sp_statement ok deep c'' h'') h') h
    exact this
end
end K25
set_option Elab.async false
set_option linter.all false
set_option maxRecDepth 100000
set_option maxHeartbeats 1000000
namespace K25
open PySem Mp L2
/-! ### statements and their blocks -/
def sndD : D → D
  | .tup [_, y] => y
  | _ => .non
def itemsD : D → List D
  | .tup ys => ys
  | _ => []
def elseD : D → List D
  | .non => []
  | e => [e]
def blkD : D → List D
  | .tup [.str s, .tup cs, e] => if s = ("if" : Str) then cs.map sndD ++ elseD e else if s = ("while" : Str) then [e] else []
  | .tup [.str s, _, e] => if s = ("while" : Str) then [e] else []
  | .tup [.str s, .tup bs] => if s = ("choose" : Str) then bs else []
  | _ => []
/-- leaves: a word ahead that is none of the three -/
def GLeaf (d : D) : Prop := ∃ s rest, d = .tup (.str s :: rest) ∧ s ≠ "if" ∧ s ≠ "while" ∧ s ≠ "choose" ∧ (s = "atomic" → ∃ xs, rest = [.tup xs] ∧ xs.length ≤ 3)
def GB (P : D → Prop) (b : D) : Prop := ∃ ys, b = .tup ys ∧ ys.length ≤ 4 ∧ ∀ y ∈ ys, P y
def Gs : Nat → D → Prop
  | 0, d => GLeaf d
  | n + 1, d => GLeaf d ∨
    (∃ cs e, d = .tup [.str ("if" : Str), .tup cs, e] ∧ cs ≠ [] ∧ cs.length ≤ 2 ∧ (∀ c ∈ cs, ∃ t b, c = .tup [t, b] ∧ GB (Gs n) b) ∧ (e = .non ∨ GB (Gs n) e)) ∨
    (∃ bs, d = .tup [.str ("choose" : Str), .tup bs] ∧ bs ≠ [] ∧ bs.length ≤ 2 ∧ ∀ b ∈ bs, GB (Gs n) b) ∨
    ∃ t b, d = .tup [.str ("while" : Str), t, b] ∧ GB (Gs n) b
theorem s_ne : ("while" : Str) ≠ "if" ∧ ("choose" : Str) ≠ "if" ∧ ("choose" : Str) ≠ "while" := ⟨by decide +kernel, by decide +kernel, by decide +kernel⟩
theorem blk_leaf {d : D} (h : GLeaf d) : blkD d = [] := by
  obtain ⟨s, rest, rfl, h1, h2, h3, _⟩ := h
  unfold blkD
  split
  · rename_i s' cs e heq
    cases heq
    rw [if_neg h1, if_neg h2]
  · rename_i s' x e _ heq
    cases heq
    rw [if_neg h2]
  · rename_i s' bs heq
    cases heq
    rw [if_neg h3]
  · rfl
theorem blk_if {cs : List D} {e : D} : blkD (.tup [.str ("if" : Str), .tup cs, e]) = cs.map sndD ++ elseD e := by
  show (if ("if" : Str) = "if" then cs.map sndD ++ elseD e else if ("if" : Str) = "while" then [e] else []) = _
  rw [if_pos rfl]
theorem blk_choose {bs : List D} : blkD (.tup [.str ("choose" : Str), .tup bs]) = bs := by
  show (if ("choose" : Str) = "choose" then bs else []) = _
  rw [if_pos rfl]
theorem blk_while {t b : D} : blkD (.tup [.str ("while" : Str), t, b]) = [b] := by
  cases t with
  | tup cs =>
    show (if ("while" : Str) = "if" then cs.map sndD ++ elseD b else if ("while" : Str) = "while" then [b] else []) = _
    rw [if_neg s_ne.1, if_pos rfl]
  | _ =>
    show (if ("while" : Str) = "while" then [b] else []) = _
    rw [if_pos rfl]
theorem Gs.leaf {n : Nat} {d : D} (h : GLeaf d) : Gs n d := by
  cases n with
  | zero => exact h
  | succ n => exact .inl h
theorem GB.mono {P P' : D → Prop} {b : D} (h : GB P b) (i : ∀ d, P d → P' d) : GB P' b := let ⟨ys, e, hl, hy⟩ := h; ⟨ys, e, hl, fun y m => i y (hy y m)⟩
theorem Gs.up {n : Nat} : ∀ {d : D}, Gs n d → Gs (n + 1) d := by
  induction n with
  | zero => exact fun h => .inl h
  | succ n ih =>
    intro d h
    rcases h with h | ⟨cs, e, h1, h2, h3, h4, h5⟩ | ⟨bs, h1, h2, h3, h4⟩ | ⟨t, b, h1, h2⟩
    · exact .inl h
    · refine .inr (.inl ⟨cs, e, h1, h2, h3, fun c hc => ?_, h5.imp id fun h => h.mono fun d => ih⟩)
      obtain ⟨t, b, e1, e2⟩ := h4 c hc
      exact ⟨t, b, e1, e2.mono fun d => ih⟩
    · exact .inr (.inr (.inl ⟨bs, h1, h2, h3, fun b hb => (h4 b hb).mono fun d => ih⟩))
    · exact .inr (.inr (.inr ⟨t, b, h1, h2.mono fun d => ih⟩))
/-- each block of a statement is a block of the level below; there are three at most -/
theorem Gs.blk {n : Nat} {d : D} (h : Gs n d) : (blkD d).length ≤ 3 ∧ ∀ b ∈ blkD d, n ≠ 0 ∧ GB (Gs (n - 1)) b := by
  have leaf : GLeaf d → (blkD d).length ≤ 3 ∧ ∀ b ∈ blkD d, n ≠ 0 ∧ GB (Gs (n - 1)) b := fun h => by
    rw [blk_leaf h]
    exact ⟨by simp, fun b hb => by cases hb⟩
  cases n with
  | zero => exact leaf h
  | succ n =>
    rcases h with h | ⟨cs, e, rfl, h2, h3, h4, h5⟩ | ⟨bs, rfl, h2, h3, h4⟩ | ⟨t, b, rfl, h2⟩
    · exact leaf h
    · rw [blk_if]
      have he : (elseD e).length ≤ 1 := by cases e <;> simp [elseD]
      refine ⟨by rw [List.length_append, List.length_map]; omega, fun b hb => ⟨by omega, ?_⟩⟩
      rcases List.mem_append.mp hb with hb | hb
      · obtain ⟨c, hc, rfl⟩ := List.mem_map.mp hb
        obtain ⟨t, b, rfl, e2⟩ := h4 c hc
        exact e2
      · rcases h5 with rfl | h5
        · cases hb
        · obtain ⟨ys, rfl, _, _⟩ := id h5
          have : b = .tup ys := by simpa [elseD] using hb
          rw [this]
          exact h5
    · rw [blk_choose]
      exact ⟨by omega, fun b hb => ⟨by omega, h4 b hb⟩⟩
    · rw [blk_while]
      refine ⟨by simp, fun b' hb => ⟨by omega, ?_⟩⟩
      rw [List.mem_singleton.mp hb]
      exact h2
/-- the first word of a statement -/
theorem fn_blocks_of : (g fuel).fns f_blocks_of = ⟨2, 1, b_blocks_of⟩ := rfl
@[simp] theorem isi_tup {xs : List D} {S : Sto} : isis S (.tup xs) [.tuple] = some true := rfl
@[simp] theorem isi_str {s : Str} {S : Sto} : isis S (.str s) [.str] = some true := rfl
theorem bls_map {f : D → Bool} : ∀ {cs : List D}, blsOf (cs.map fun c => .bl (f c)) = some (cs.map f)
  | [] => rfl
  | c :: r => by
    show (blsOf (r.map fun c => .bl (f c))).map (f c :: ·) = _
    rw [bls_map]
    rfl
theorem bi_all {cs : List D} {S : Sto} (f : D → Bool) : biP S .all [.lst (cs.map fun c => .bl (f c))] = some (.bl (cs.all f)) := by
  show ((some (cs.map fun c => D.bl (f c))).bind blsOf).map (fun bs => D.bl (bs.all id)) = _
  rw [Option.bind_some, bls_map]
  simp
theorem sp_blocks {n : Nat} {d : D} (h : Gs n d) {S : Sto} {Q : D → Sto → Prop} (q : Q (.lst (blkD d)) S) : wp (run (g fuel) (k + 1) f_blocks_of [d]) Q S := by
  refine wp_run fn_blocks_of rfl ?_
  show wpB (envOf (g fuel) k) b_blocks_of [some d, none] (fun f _ S' => match f with
    | .rt d => Q d S'
    | .nx => Q .non S'
    | _ => False) S
  have leaf : GLeaf d → wpB (envOf (g fuel) k) b_blocks_of [some d, none] (fun f _ S' => match f with
    | .rt d => Q d S'
    | .nx => Q .non S'
    | _ => False) S := fun h => by
    rw [blk_leaf h] at q
    obtain ⟨s, rest, rfl, h1, h2, h3, _⟩ := h
    refine b_ifF (.bl false) (by simp [pu]) rfl (b_end ?_)
    refine b_ifF (.bl false) (by simp [pu, h1]) rfl (b_end ?_)
    refine b_ifF (.bl false) (by simp [pu, h2]) rfl (b_end ?_)
    refine b_ifF (.bl false) (by simp [pu, h3]) rfl (b_end ?_)
    exact b_retP (.lst []) rfl q
  cases n with
  | zero => exact leaf h
  | succ n =>
    rcases h with h | ⟨cs, e, rfl, h2, h3, h4, h5⟩ | ⟨bs, rfl, h2, h3, h4⟩ | ⟨t, b, rfl, h2⟩
    · exact leaf h
    · rw [blk_if] at q
      have hne : cs.isEmpty = false := by cases cs <;> simp_all
      refine b_ifF (.bl false) (by simp [pu]) rfl (b_end ?_)
      refine b_ifT (.bl true) (by simp [pu]) rfl ?_
      refine b_ifF (.bl false) (by simp [pu, puEs, hne]) rfl (b_end ?_)
      refine b_if ?_
      simp
      refine wi_seqT (xs := cs) ?_
      simp
      refine wp_comp_map (fun _ => .bl true) (fun i c hc => ?_) ⟨slen (by rw [List.length_map]; omega), ?_⟩
      · obtain ⟨t, b, rfl, _⟩ := h4 c (List.mem_of_getElem? hc)
        refine t_nm ⟨rfl, ?_⟩
        simp [wipeD, we_and]
      · refine ⟨_, bi_all (fun _ => true), .inr ⟨by simp, ?_⟩⟩
        refine b_end (b_ret ?_)
        simp [we_ite]
        refine wi_seqT (xs := cs) ?_
        simp
        refine wp_comp_map sndD (fun i c hc => ?_) ⟨slen (by rw [List.length_map]; omega), ?_⟩
        · obtain ⟨t, b, rfl, _⟩ := h4 c (List.mem_of_getElem? hc)
          refine t_nm ⟨rfl, ?_⟩
          simp [wipeD, sndD]
        · have fin : ∀ {es : List D}, es.length ≤ 1 → es = elseD e → binP S .add (.lst (cs.map sndD)) (.lst es) = some (.lst (cs.map sndD ++ elseD e)) := fun {es} hl he => by
            rw [bin_addL rfl rfl (slen (by rw [List.length_map]; omega)), he]
          rcases h5 with rfl | ⟨ys, rfl, _, _⟩
          · simp
            exact ⟨_, fin (by simp) rfl, q⟩
          · simp
            exact ⟨sl1, _, fin (by simp) rfl, q⟩
    · rw [blk_choose] at q
      have hne : bs.isEmpty = false := by cases bs <;> simp_all
      have hs : ("choose" : Str) ≠ "if" ∧ ("choose" : Str) ≠ "while" := s_ne.2
      refine b_ifF (.bl false) (by simp [pu]) rfl (b_end ?_)
      refine b_ifF (.bl false) (by simp [pu, hs.1]) rfl (b_end ?_)
      refine b_ifF (.bl false) (by simp [pu, hs.2]) rfl (b_end ?_)
      refine b_ifT (.bl true) (by simp [pu]) rfl ?_
      exact b_retP (.lst bs) (by simp [pu, puEs, hne, bfP]) q
    · rw [blk_while] at q
      refine b_ifF (.bl false) (by simp [pu]) rfl (b_end ?_)
      refine b_ifF (.bl false) (by simp [pu, s_ne.1]) rfl (b_end ?_)
      refine b_ifT (.bl true) (by simp [pu]) rfl ?_
      exact b_retP (.lst [b]) (by simp [pu, puEs, sl1]) q
end K25
set_option Elab.async false
set_option linter.all false
set_option maxRecDepth 100000
set_option maxHeartbeats 1000000
namespace K25
open PySem Mp L2
/-! ### all statements, and their numbers -/
def allS : Nat → List D → List D
  | 0, ys => ys
  | n + 1, ys => ys.flatMap fun y => y :: (blkD y).flatMap fun b => allS n (itemsD b)
abbrev Nu := List D × Int × List (List D)
def numB (rec : List D → Int → Nu) : List D → Int → Nu
  | [], at_ => ([], at_, [])
  | b :: r, at_ => (.tup (rec (itemsD b) at_).1 :: (numB rec r (rec (itemsD b) at_).2.1).1, (numB rec r (rec (itemsD b) at_).2.1).2.1, (rec (itemsD b) at_).2.2 ++ (numB rec r (rec (itemsD b) at_).2.1).2.2)
def numL (rec : List D → Int → Nu) : List D → Int → Nu
  | [], at_ => ([], at_, [])
  | y :: r, at_ => (.int at_ :: (numL rec r (numB rec (blkD y) (at_ + 1)).2.1).1, (numL rec r (numB rec (blkD y) (at_ + 1)).2.1).2.1, ((numB rec (blkD y) (at_ + 1)).1 :: (numB rec (blkD y) (at_ + 1)).2.2) ++ (numL rec r (numB rec (blkD y) (at_ + 1)).2.1).2.2)
def num : Nat → List D → Int → Nu
  | 0 => numL fun _ at_ => ([], at_, [])
  | n + 1 => numL (num n)
/-- the lists at these handles -/
inductive Rows (S : Sto) : List D → List (List D) → Prop
  | nil : Rows S [] []
  | cons {h : Nat} {row : List D} {hs : List D} {rows : List (List D)} : S[h]? = some (.lst row) → Rows S hs rows → Rows S (.hd h :: hs) (row :: rows)
theorem Rows.append {S : Sto} {hs hs' : List D} {rows rows' : List (List D)} (a : Rows S hs rows) (b : Rows S hs' rows') : Rows S (hs ++ hs') (rows ++ rows') := by
  induction a with
  | nil => exact b
  | cons h _ ih => exact .cons h ih
theorem Rows.length {S : Sto} {hs : List D} {rows : List (List D)} (a : Rows S hs rows) : hs.length = rows.length := by
  induction a with
  | nil => rfl
  | cons h _ ih => simp [ih]
/-- the handles are from m on -/
def From (m : Nat) (hs : List D) : Prop := ∀ h ∈ hs, ∃ i, h = .hd i ∧ m ≤ i
theorem Rows.keep {S S' : Sto} {hs : List D} {rows : List (List D)} {m : Nat} (a : Rows S hs rows) (f : From m hs) (k : ∀ i o, m ≤ i → S[i]? = some o → S'[i]? = some o) : Rows S' hs rows := by
  induction a with
  | nil => exact .nil
  | @cons h row hs rows e _ ih =>
    obtain ⟨i, e1, h1⟩ := f _ List.mem_cons_self
    cases e1
    exact .cons (k h _ h1 e) (ih fun h hm => f h (List.mem_cons_of_mem _ hm))
/-- how many statements at most -/
def cnt : Nat → Nat
  | 0 => 4
  | n + 1 => 4 * (1 + 3 * cnt n)
theorem flat_le {α β : Type} {f : α → List β} {c : Nat} : ∀ {xs : List α}, (∀ x ∈ xs, (f x).length ≤ c) → (xs.flatMap f).length ≤ xs.length * c
  | [], _ => by simp
  | x :: r, h => by
    rw [List.flatMap_cons, List.length_append, List.length_cons, Nat.add_mul, Nat.one_mul]
    have := flat_le (xs := r) fun x hx => h x (List.mem_cons_of_mem _ hx)
    have := h x List.mem_cons_self
    omega
theorem allS_len : ∀ {n : Nat} {ys : List D}, ys.length ≤ 4 → (∀ y ∈ ys, Gs n y) → (allS n ys).length ≤ cnt n
  | 0, ys, hl, _ => hl
  | n + 1, ys, hl, hy => by
    have h1 := flat_le (xs := ys) (f := fun y => y :: (blkD y).flatMap fun b => allS n (itemsD b)) (c := 1 + 3 * cnt n) fun y hm => by
      obtain ⟨b1, b2⟩ := (hy y hm).blk
      rw [List.length_cons]
      have h2 := flat_le (xs := blkD y) (f := fun b => allS n (itemsD b)) (c := cnt n) fun b hb => by
        obtain ⟨_, zs, rfl, hz, hz'⟩ := b2 b hb
        exact allS_len hz hz'
      have := Nat.mul_le_mul_right (cnt n) b1
      omega
    have := Nat.mul_le_mul_right (1 + 3 * cnt n) hl
    exact Nat.le_trans h1 this
theorem fn_numbers : (g fuel).fns f_numbers = ⟨11, 4, b_numbers⟩ := rfl
theorem get_push {S : Sto} {o : Ob} {i : Nat} {u : Ob} (h : S[i]? = some u) : (S ++ [o])[i]? = some u := by
  rw [List.getElem?_append_left (List.getElem?_eq_some_iff.mp h).1]
  exact h
theorem get_new {S : Sto} {o : Ob} : (S ++ [o])[S.length]? = some o := by simp
theorem lt_of_get {S : Sto} {i : Nat} {u : Ob} (h : S[i]? = some u) : i < S.length := (List.getElem?_eq_some_iff.mp h).1
theorem get_set_ne {S : Sto} {i j : Nat} {o u : Ob} (h : S[i]? = some u) (hne : j ≠ i) : (S.set j o)[i]? = some u := by
  rw [List.getElem?_set_ne hne]
  exact h
/-- the lists that numbers fills -/
structure NI (S0 : Sto) (hs hb h : Nat) (xs bh : List D) (S : Sto) (fnd sts nh : List D) (rows : List (List D)) (at_ : Int) : Prop where
  ge : S0.length ≤ h
  fo : S[h]? = some (.lst fnd)
  keep : ∀ i o, S0[i]? = some o → i ≠ hs → i ≠ hb → S[i]? = some o
  st : S[hs]? = some (.lst (xs ++ sts))
  bl : S[hb]? = some (.lst (bh ++ nh))
  fr : From S0.length nh
  rw : Rows S nh rows
  nd : nh.Nodup
  ne : .hd h ∉ nh
  pl : at_ = ((bh ++ nh).length : Int) + 1
  lt : hs < S0.length ∧ hb < S0.length ∧ hs ≠ hb
def NumOk (rec : List D → Int → Nu) (all : List D → List D) (P : D → Prop) (c : Nat) (run1 : List D → M D) : Prop :=
  ∀ (ys : List D) (src : D) (S : Sto) (Q : D → Sto → Prop) (xs bh : List D) (hs hb : Nat) (at_ : Int), (src = .tup ys ∨ src = .lst ys) → ys.length ≤ 4 → (∀ y ∈ ys, P y) → S[hs]? = some (.lst xs) → S[hb]? = some (.lst bh) → hs ≠ hb → xs.length + c ≤ 100000 → bh.length + c ≤ 100000 → at_ = (bh.length : Int) + 1 →
    (∀ (h : Nat) S' nh, NI S hs hb h xs bh S' (rec ys at_).1 (all ys) nh (rec ys at_).2.2 (rec ys at_).2.1 → nh.length = (all ys).length → Q (.tup [.hd h, .int (rec ys at_).2.1]) S') → wp (run1 [src, .int at_, .hd hs, .hd hb]) Q S
theorem numB_snoc {rec : List D → Int → Nu} {b : D} : ∀ {l : List D} {a : Int}, numB rec (l ++ [b]) a = ((numB rec l a).1 ++ [.tup (rec (itemsD b) (numB rec l a).2.1).1], (rec (itemsD b) (numB rec l a).2.1).2.1, (numB rec l a).2.2 ++ (rec (itemsD b) (numB rec l a).2.1).2.2)
  | [], a => by simp [numB]
  | c :: r, a => by simp [numB, numB_snoc (l := r)]
theorem numL_snoc {rec : List D → Int → Nu} {y : D} : ∀ {l : List D} {a : Int}, numL rec (l ++ [y]) a = ((numL rec l a).1 ++ [.int (numL rec l a).2.1], (numB rec (blkD y) ((numL rec l a).2.1 + 1)).2.1, (numL rec l a).2.2 ++ ((numB rec (blkD y) ((numL rec l a).2.1 + 1)).1 :: (numB rec (blkD y) ((numL rec l a).2.1 + 1)).2.2))
  | [], a => by simp [numL]
  | c :: r, a => by simp [numL, numL_snoc (l := r)]
theorem take_snoc {α : Type} {l : List α} {i : Nat} {x : α} (h : l[i]? = some x) : l.take (i + 1) = l.take i ++ [x] := by
  rw [List.take_add_one, h]
  rfl
theorem Rows.put {S : Sto} {r : Nat} {row' : List D} {a b : List D} {ra rb : List (List D)} {row : List D} (h : Rows S (a ++ .hd r :: b) (ra ++ row :: rb)) (hl : a.length = ra.length) (h1 : .hd r ∉ a) (h2 : .hd r ∉ b) : Rows (S.set r (.lst row')) (a ++ .hd r :: b) (ra ++ row' :: rb) := by
  have other : ∀ {hs : List D} {rows : List (List D)}, .hd r ∉ hs → Rows S hs rows → Rows (S.set r (.lst row')) hs rows := fun {hs rows} hn q => by
    induction q with
    | nil => exact .nil
    | @cons i row hs rows e _ ih =>
      simp only [List.mem_cons, not_or] at hn
      exact .cons (get_set_ne e fun z => hn.1 (by rw [z])) (ih hn.2)
  induction a generalizing ra with
  | nil =>
    cases ra with
    | nil =>
      cases h with
      | cons e q => exact .cons (get_set e) (other h2 q)
    | cons _ _ => cases hl
  | cons x a ih =>
    cases ra with
    | nil => cases hl
    | cons y ra =>
      simp only [List.mem_cons, not_or] at h1
      cases h with
      | cons e q => exact .cons (get_set_ne e fun z => h1.1 (by rw [z])) (ih q (by simpa using hl) h1.2)
end K25
set_option Elab.async false
set_option linter.all false
set_option maxRecDepth 100000
set_option maxHeartbeats 1000000
namespace K25
open PySem Mp L2
theorem big {n : Nat} (h : n ≤ 100000) : n < sizeLine := Nat.lt_of_le_of_lt h (by decide)
/-- the inner loop of numbers: the parts of one statement. r: the row of this statement -/
def partsB : Ss := (.cons (.asg (.tp (.cons (.nm 9) (.cons (.nm 1) .nil))) (.call f_numbers (.cons (.loc 8) (.cons (.loc 1) (.cons (.loc 2) (.cons (.loc 3) .nil))))))
      (.cons (.ex (.bm .append (.ix (.loc 3) (.bin .sub (.loc 6) (.cst (.int (1))))) (.cons (.bi .tuple (.cons (.loc 9) .nil)) .nil)))
      .nil))
theorem From.mono {m m' : Nat} {hs : List D} (f : From m hs) (h : m' ≤ m) : From m' hs := fun x hx => let ⟨i, e, hi⟩ := f x hx; ⟨i, e, Nat.le_trans h hi⟩
theorem From.append {m : Nat} {hs hs' : List D} (f : From m hs) (f' : From m hs') : From m (hs ++ hs') := fun x hx => (List.mem_append.mp hx).elim (f x) (f' x)
theorem parts_loop {rec : List D → Int → Nu} {all : List D → List D} {PP : D → Prop} {c k : Nat} (hrec : NumOk rec all PP c (run (g fuel) k f_numbers)) {src one parts : D} {t : Option D} {bs : List D} (hbs : bs.length ≤ 3) (hb4 : ∀ b ∈ bs, GB PP b)
    {S0 : Sto} {hs hb h r : Nat} {xs bh fnd sts nh0 : List D} {rows0 : List (List D)} {own : Int} {S : Sto} {o8 o9 : Option D}
    (hNI : NI S0 hs hb h xs bh S fnd sts (nh0 ++ [.hd r]) (rows0 ++ [[]]) (own + 1)) (hr0 : (bh ++ nh0).length = own - 1) (hrl : nh0.length = rows0.length)
    (hcx : xs.length + sts.length + 3 * c ≤ 100000) (hcb : bh.length + (nh0.length + 1) + 3 * c ≤ 100000) (hall : ∀ ys, ys.length ≤ 4 → (∀ y ∈ ys, PP y) → (all ys).length ≤ c)
    {Q : Fl × Sl → Sto → Prop} (hQ : ∀ S' nh1 o8 o9, NI S0 hs hb h xs bh S' fnd (sts ++ bs.flatMap fun b => all (itemsD b)) (nh0 ++ .hd r :: nh1) (rows0 ++ (numB rec bs (own + 1)).1 :: (numB rec bs (own + 1)).2.2) (numB rec bs (own + 1)).2.1 → nh1.length = (bs.flatMap fun b => all (itemsD b)).length → Q (.nx, [some src, some (.int (numB rec bs (own + 1)).2.1), some (.hd hs), some (.hd hb), some (.hd h), some one, some (.int own), some parts, o8, o9, t]) S') :
    wp (atCap (.st bs) fuel fun q => loopF (.st bs) (fun x σ => evT (envOf (g fuel) k) (.nm 8) x σ) (fun σ => evB (envOf (g fuel) k) partsB σ) q 0 [some src, some (.int (own + 1)), some (.hd hs), some (.hd hb), some (.hd h), some one, some (.int own), some parts, o8, o9, t]) Q S := by
  refine wp_for_st (fun i σ S' => ∃ nh1 o8 o9, σ = [some src, some (.int (numB rec (bs.take i) (own + 1)).2.1), some (.hd hs), some (.hd hb), some (.hd h), some one, some (.int own), some parts, o8, o9, t] ∧
      NI S0 hs hb h xs bh S' fnd (sts ++ (bs.take i).flatMap fun b => all (itemsD b)) (nh0 ++ .hd r :: nh1) (rows0 ++ (numB rec (bs.take i) (own + 1)).1 :: (numB rec (bs.take i) (own + 1)).2.2) (numB rec (bs.take i) (own + 1)).2.1 ∧ nh1.length = ((bs.take i).flatMap fun b => all (itemsD b)).length)
    ⟨[], o8, o9, rfl, by simpa [numB] using hNI, rfl⟩ ?_ ?_
  · rintro i b σ S1 hi ⟨nh1, o8, o9, rfl, NI1, hl1⟩
    refine t_nm ?_
    obtain ⟨ys, rfl, hy4, hyP⟩ := hb4 b (List.mem_of_getElem? hi)
    have hilt := (List.getElem?_eq_some_iff.mp hi).1
    have hsum : ((bs.take i).flatMap fun b => all (itemsD b)).length ≤ i * c := by
      have h1 := flat_le (xs := bs.take i) (f := fun b => all (itemsD b)) (c := c) fun b hb => by
        obtain ⟨zs, rfl, hz, hz'⟩ := hb4 b (List.mem_of_mem_take hb)
        exact hall zs hz hz'
      refine Nat.le_trans h1 (Nat.mul_le_mul_right _ ?_)
      rw [List.length_take]; omega
    have hic : i * c ≤ 2 * c := Nat.mul_le_mul_right _ (by omega)
    show wpB (envOf (g fuel) k) partsB _ (fun f σ S => Turn1 (f, σ) S _ Q) S1
    refine b_asg ?_
    simp
    have NI1' := NI1
    obtain ⟨i1, i2, i3, i4, i5, i6, i7, i8, i9, i10, i11⟩ := NI1
    refine hrec ys (.tup ys) S1 _ _ _ hs hb _ (.inl rfl) hy4 hyP i4 i5 i11.2.2 (by simp only [List.length_append]; omega) (by simp only [List.length_append, List.length_cons, hl1]; omega) i10 fun h' S2 nh2 N2 hl2 => ?_
    obtain ⟨j1, j2, j3, j4, j5, j6, j7, j8, j9, j10, j11⟩ := N2
    -- (numbers, at) = ..
    simp only [evT, evTs, wp_bind, wp_pure]
    -- the row of this statement, as it stands
    have hrow : ∃ ra rb, rows0 ++ (numB rec (bs.take i) (own + 1)).1 :: (numB rec (bs.take i) (own + 1)).2.2 = ra ++ (numB rec (bs.take i) (own + 1)).1 :: rb ∧ ra.length = nh0.length := ⟨_, _, rfl, hrl.symm⟩
    have rowAt : S1[r]? = some (.lst (numB rec (bs.take i) (own + 1)).1) := by
      clear hrow hNI hQ NI1'
      have : ∀ {a : List D} {ra : List (List D)} {x : List D} {b : List D} {rb : List (List D)}, a.length = ra.length → Rows S1 (a ++ .hd r :: b) (ra ++ x :: rb) → S1[r]? = some (.lst x) := fun {a} => by
        induction a with
        | nil =>
          intro ra x b rb hl q
          cases ra with
          | nil => cases q with | cons e _ => exact e
          | cons _ _ => cases hl
        | cons y a ih =>
          intro ra x b rb hl q
          cases ra with
          | nil => cases hl
          | cons z ra => cases q with | cons _ q => exact ih (by simpa using hl) q
      exact this hrl i7
    have rlt : r < S1.length := lt_of_get rowAt
    have rge : S0.length ≤ r := by
      obtain ⟨i', e', h'⟩ := i6 (.hd r) (by simp)
      cases e'
      exact h'
    have rne : r ≠ hs ∧ r ≠ hb := ⟨by omega, by omega⟩
    have rowAt2 : S2[r]? = some (.lst (numB rec (bs.take i) (own + 1)).1) := j3 r _ rowAt rne.1 rne.2
    have idx : (bh ++ (nh0 ++ .hd r :: nh1) ++ nh2)[(bh ++ nh0).length]? = some (.hd r) := by simp
    have cell : atI (bh ++ (nh0 ++ .hd r :: nh1) ++ nh2) (own - 1) = some (.hd r) := by
      rw [← hr0]
      exact Mp.atI_nat idx
    have hnum : (numB rec (bs.take i) (own + 1)).1.length ≤ 3 := by
      have : ∀ (l : List D) (a : Int), (numB rec l a).1.length = l.length := fun l => by
        induction l with
        | nil => intro a; rfl
        | cons b l ih => intro a; simp [numB, ih]
      rw [this, List.length_take]
      omega
    refine b_app (m := r) (xs := (numB rec (bs.take i) (own + 1)).1) (.tup (rec ys (numB rec (bs.take i) (own + 1)).2.1).1) ?_ rowAt2 ?_ (big (by omega)) ?_
    · simp [pu, ix_hd j5]
      simpa using cell
    · simp [pu, puEs, seq_hd j2]
    · refine b_nil ?_
      have e1 : numB rec (bs.take (i + 1)) (own + 1) = ((numB rec (bs.take i) (own + 1)).1 ++ [.tup (rec ys (numB rec (bs.take i) (own + 1)).2.1).1], (rec ys (numB rec (bs.take i) (own + 1)).2.1).2.1, (numB rec (bs.take i) (own + 1)).2.2 ++ (rec ys (numB rec (bs.take i) (own + 1)).2.1).2.2) := by
        rw [take_snoc hi, numB_snoc]
        rfl
      have e2 : ((bs.take (i + 1)).flatMap fun b => all (itemsD b)) = ((bs.take i).flatMap fun b => all (itemsD b)) ++ all ys := by
        rw [take_snoc hi, List.flatMap_append]
        simp [itemsD]
      refine ⟨⟨_, _, by rw [e1]; rfl⟩, nh1 ++ nh2, ?_, ?_⟩
      · rw [e1, e2]
        have nrnh : .hd r ∉ nh0 ∧ .hd r ∉ nh1 := by
          have := List.nodup_append.mp i8
          refine ⟨fun z => this.2.2 _ z _ List.mem_cons_self rfl, (List.nodup_cons.mp this.2.1).1⟩
        have frlt : ∀ x ∈ nh0 ++ .hd r :: nh1, ∀ q, x = .hd q → q < S1.length := by
          have : ∀ {hs : List D} {rows : List (List D)}, Rows S1 hs rows → ∀ x ∈ hs, ∀ q, x = .hd q → q < S1.length := fun {hs rows} q => by
            induction q with
            | nil => intro x hx; cases hx
            | cons e _ ih =>
              intro x hx q hq
              rcases List.mem_cons.mp hx with rfl | hx
              · cases hq; exact lt_of_get e
              · exact ih x hx q hq
          exact this i7
        have nr2 : .hd r ∉ nh2 := fun z => by
          obtain ⟨q, e, hq⟩ := j6 _ z
          cases e
          omega
        have rows2 : Rows S2 (nh0 ++ .hd r :: nh1) (rows0 ++ (numB rec (bs.take i) (own + 1)).1 :: (numB rec (bs.take i) (own + 1)).2.2) := by
          refine i7.keep (m := S0.length) i6 fun q o hq e => j3 q o e (by omega) (by omega)
        have hh1 : h < S1.length := lt_of_get i2
        have hrr : r ≠ h := fun z => i9 (by rw [z]; simp)
        refine ⟨i1, get_set_ne (j3 h _ i2 (by omega) (by omega)) hrr, fun q o e n1 n2 => ?_, ?_, ?_, ?_, ?_, ?_, ?_, ?_, i11⟩
        · have h1 := j3 q o (i3 q o e n1 n2) n1 n2
          refine get_set_ne h1 ?_
          have := lt_of_get e
          omega
        · have := get_set_ne (j := r) (o := .lst ((numB rec (bs.take i) (own + 1)).1 ++ [.tup (rec ys (numB rec (bs.take i) (own + 1)).2.1).1])) j4 rne.1
          have e5 : xs ++ (sts ++ (bs.take i).flatMap fun b => all (itemsD b)) ++ all ys = xs ++ (sts ++ ((bs.take i).flatMap (fun b => all (itemsD b)) ++ all ys)) := by simp
          rw [e5] at this
          exact this
        · have := get_set_ne (j := r) (o := .lst ((numB rec (bs.take i) (own + 1)).1 ++ [.tup (rec ys (numB rec (bs.take i) (own + 1)).2.1).1])) j5 rne.2
          have e3 : bh ++ (nh0 ++ .hd r :: nh1) ++ nh2 = bh ++ (nh0 ++ .hd r :: (nh1 ++ nh2)) := by simp
          rw [e3] at this
          exact this
        · have e3 : nh0 ++ .hd r :: (nh1 ++ nh2) = (nh0 ++ .hd r :: nh1) ++ nh2 := by simp
          rw [e3]
          exact i6.append (j6.mono (Nat.le_of_lt (Nat.lt_of_le_of_lt i1 hh1)))
        · have q := (rows2.append j7)
          have e3 : (nh0 ++ .hd r :: nh1) ++ nh2 = nh0 ++ .hd r :: (nh1 ++ nh2) := by simp
          have e4 : (rows0 ++ (numB rec (bs.take i) (own + 1)).1 :: (numB rec (bs.take i) (own + 1)).2.2) ++ (rec ys (numB rec (bs.take i) (own + 1)).2.1).2.2 = rows0 ++ (numB rec (bs.take i) (own + 1)).1 :: ((numB rec (bs.take i) (own + 1)).2.2 ++ (rec ys (numB rec (bs.take i) (own + 1)).2.1).2.2) := by simp
          rw [e3, e4] at q
          exact q.put hrl nrnh.1 fun z => (List.mem_append.mp z).elim nrnh.2 nr2
        · have e3 : nh0 ++ .hd r :: (nh1 ++ nh2) = (nh0 ++ .hd r :: nh1) ++ nh2 := by simp
          rw [e3]
          refine List.nodup_append.mpr ⟨i8, j8, fun x hx y hy z => ?_⟩
          subst z
          obtain ⟨q, e, hq⟩ := j6 _ hy
          have := frlt x hx q e
          omega
        · have e3 : nh0 ++ .hd r :: (nh1 ++ nh2) = (nh0 ++ .hd r :: nh1) ++ nh2 := by simp
          rw [e3]
          intro z
          rcases List.mem_append.mp z with z | z
          · exact i9 z
          · obtain ⟨q, e, hq⟩ := j6 _ z
            cases e
            omega
        · have e3 : bh ++ (nh0 ++ .hd r :: nh1) ++ nh2 = bh ++ (nh0 ++ .hd r :: (nh1 ++ nh2)) := by simp
          rw [e3] at j10
          exact j10
      · have e6 : (nh1 ++ nh2).length = ((bs.take (i + 1)).flatMap fun b => all (itemsD b)).length := by rw [e2, List.length_append, List.length_append, hl1, hl2]
        simpa [List.length_flatMap] using e6
  · rintro σ S1 ⟨nh1, o8, o9, rfl, NI1, hl1⟩
    rw [List.take_length] at NI1 hl1 ⊢
    exact hQ S1 nh1 o8 o9 NI1 hl1
end K25
namespace K25
open PySem Mp L2
/-- the statement's parts, as numbers tells them -/
theorem chain {n : Nat} {y : D} (hy : Gs n y) {k p : Nat} {a0 a1 a2 a3 a4 a6 a8 a9 a10 : Option D} {r : Ss} {K : K2} {S : Sto} (q : ∀ v a10, (v = .lst (blkD y) ∨ (blkD y = [] ∧ v = .hd p)) → wpB (envOf (g fuel) k) r [a0, a1, a2, a3, a4, some y, a6, some v, a8, a9, a10] K S) :
    wpB (envOf (g fuel) k) (.cons (.if_ (.cmp .eq (.ix (.loc 5) (.cst (.int (0)))) (.cst (.str ("if" : Str))))
      (.cons (.asg (.nm 7) (.bin .add (.comp false [10] (.nm 10) (.seq (.ix (.loc 5) (.cst (.int (1))))) .no (.ix (.loc 10) (.cst (.int (1))))) (.ite (.cmp .is_ (.ix (.loc 5) (.cst (.int (2)))) (.cst .non)) (.lst false .nil) (.lst false (.cons (.ix (.loc 5) (.cst (.int (2)))) .nil)))))
      .nil)
      (.cons (.if_ (.cmp .eq (.ix (.loc 5) (.cst (.int (0)))) (.cst (.str ("while" : Str))))
        (.cons (.asg (.nm 7) (.lst false (.cons (.ix (.loc 5) (.cst (.int (2)))) .nil)))
        .nil)
        (.cons (.if_ (.cmp .eq (.ix (.loc 5) (.cst (.int (0)))) (.cst (.str ("choose" : Str))))
          (.cons (.asg (.nm 7) (.bf false .list (.cons (.ix (.loc 5) (.cst (.int (1)))) .nil)))
          .nil)
          .nil)
        .nil))
      .nil)) r) [a0, a1, a2, a3, a4, some y, a6, some (.hd p), a8, a9, a10] K S := by
  have leaf : GLeaf y → wpB (envOf (g fuel) k) (.cons (.if_ (.cmp .eq (.ix (.loc 5) (.cst (.int (0)))) (.cst (.str ("if" : Str))))
      (.cons (.asg (.nm 7) (.bin .add (.comp false [10] (.nm 10) (.seq (.ix (.loc 5) (.cst (.int (1))))) .no (.ix (.loc 10) (.cst (.int (1))))) (.ite (.cmp .is_ (.ix (.loc 5) (.cst (.int (2)))) (.cst .non)) (.lst false .nil) (.lst false (.cons (.ix (.loc 5) (.cst (.int (2)))) .nil)))))
      .nil)
      (.cons (.if_ (.cmp .eq (.ix (.loc 5) (.cst (.int (0)))) (.cst (.str ("while" : Str))))
        (.cons (.asg (.nm 7) (.lst false (.cons (.ix (.loc 5) (.cst (.int (2)))) .nil)))
        .nil)
        (.cons (.if_ (.cmp .eq (.ix (.loc 5) (.cst (.int (0)))) (.cst (.str ("choose" : Str))))
          (.cons (.asg (.nm 7) (.bf false .list (.cons (.ix (.loc 5) (.cst (.int (1)))) .nil)))
          .nil)
          .nil)
        .nil))
      .nil)) r) [a0, a1, a2, a3, a4, some y, a6, some (.hd p), a8, a9, a10] K S := fun h => by
    have q := q (.hd p) a10 (.inr ⟨blk_leaf h, rfl⟩)
    obtain ⟨s, rest, rfl, h1, h2, h3, _⟩ := h
    refine b_ifF (.bl false) (by simp [pu, h1]) rfl ?_
    refine b_ifF (.bl false) (by simp [pu, h2]) rfl ?_
    refine b_ifF (.bl false) (by simp [pu, h3]) rfl ?_
    exact b_end (b_end (b_end q))
  cases n with
  | zero => exact leaf hy
  | succ n =>
    rcases hy with h | ⟨cs, e, rfl, h2, h3, h4, h5⟩ | ⟨bs, rfl, h2, h3, h4⟩ | ⟨t, b, rfl, h2⟩
    · exact leaf h
    · rw [blk_if] at q
      refine b_ifT (.bl true) (by simp [pu]) rfl (b_asg ?_)
      simp [we_ite]
      refine wi_seqT (xs := cs) ?_
      simp
      refine wp_comp_map sndD (fun i c hc => ?_) ⟨slen (by rw [List.length_map]; omega), ?_⟩
      · obtain ⟨t, b, rfl, _⟩ := h4 c (List.mem_of_getElem? hc)
        refine t_nm ⟨rfl, ?_⟩
        simp [wipeD, sndD]
      · have fin : ∀ {es : List D}, es.length ≤ 1 → es = elseD e → binP S .add (.lst (cs.map sndD)) (.lst es) = some (.lst (cs.map sndD ++ elseD e)) := fun {es} hl he => by
          rw [bin_addL rfl rfl (slen (by rw [List.length_map]; omega)), he]
        rcases h5 with rfl | ⟨ys, rfl, _, _⟩
        · simp
          exact ⟨_, fin (by simp) rfl, t_nm (b_end (q _ _ (.inl rfl)))⟩
        · simp
          exact ⟨sl1, _, fin (by simp) rfl, t_nm (b_end (q _ _ (.inl rfl)))⟩
    · rw [blk_choose] at q
      have hs : ("choose" : Str) ≠ "if" ∧ ("choose" : Str) ≠ "while" := s_ne.2
      refine b_ifF (.bl false) (by simp [pu, hs.1]) rfl ?_
      refine b_ifF (.bl false) (by simp [pu, hs.2]) rfl ?_
      refine b_ifT (.bl true) (by simp [pu]) rfl ?_
      refine b_set (.lst bs) (by simp [pu, puEs, bfP]) (b_end (b_end (b_end (q _ _ (.inl rfl)))))
    · rw [blk_while] at q
      refine b_ifF (.bl false) (by simp [pu, s_ne.1]) rfl ?_
      refine b_ifT (.bl true) (by simp [pu]) rfl ?_
      refine b_set (.lst [b]) (by simp [pu, puEs, sl1]) (b_end (b_end (q _ _ (.inl rfl))))
end K25
set_option Elab.async false
set_option linter.all false
set_option maxRecDepth 100000
set_option maxHeartbeats 1000000
namespace K25
open PySem Mp L2
def numBody : Ss := (.cons (.asg (.nm 6) (.loc 1))
    (.cons (.ex (.bm .append (.loc 4) (.cons (.loc 6) .nil)))
    (.cons (.ex (.bm .append (.loc 2) (.cons (.loc 5) .nil)))
    (.cons (.ex (.bm .append (.loc 3) (.cons (.lst true .nil) .nil)))
    (.cons (.asg (.nm 1) (.bin .add (.loc 1) (.cst (.int (1)))))
    (.cons (.asg (.nm 7) (.lst true .nil))
    (.cons (.if_ (.cmp .eq (.ix (.loc 5) (.cst (.int (0)))) (.cst (.str ("if" : Str))))
      (.cons (.asg (.nm 7) (.bin .add (.comp false [10] (.nm 10) (.seq (.ix (.loc 5) (.cst (.int (1))))) .no (.ix (.loc 10) (.cst (.int (1))))) (.ite (.cmp .is_ (.ix (.loc 5) (.cst (.int (2)))) (.cst .non)) (.lst false .nil) (.lst false (.cons (.ix (.loc 5) (.cst (.int (2)))) .nil)))))
      .nil)
      (.cons (.if_ (.cmp .eq (.ix (.loc 5) (.cst (.int (0)))) (.cst (.str ("while" : Str))))
        (.cons (.asg (.nm 7) (.lst false (.cons (.ix (.loc 5) (.cst (.int (2)))) .nil)))
        .nil)
        (.cons (.if_ (.cmp .eq (.ix (.loc 5) (.cst (.int (0)))) (.cst (.str ("choose" : Str))))
          (.cons (.asg (.nm 7) (.bf false .list (.cons (.ix (.loc 5) (.cst (.int (1)))) .nil)))
          .nil)
          .nil)
        .nil))
      .nil))
    (.cons (.for_ (.nm 8) (.seq (.loc 7)) partsB)
    .nil))))))))
theorem b_numbers_eq : b_numbers = (.cons (.asg (.nm 4) (.lst true .nil)) (.cons (.for_ (.nm 5) (.seq (.loc 0)) numBody) (.cons (.ret (.yes (.tup (.cons (.loc 4) (.cons (.loc 1) .nil))))) .nil))) := rfl
abbrev allL (all : List D → List D) (ys : List D) : List D := ys.flatMap fun y => y :: (blkD y).flatMap fun b => all (itemsD b)
theorem numL_at {rec : List D → Int → Nu} : ∀ (l : List D) (a : Int), (numL rec l a).1.length = l.length
  | [], a => rfl
  | y :: r, a => by simp [numL, numL_at r]
/-- one statement -/
theorem body_step {n k c : Nat} {rec : List D → Int → Nu} {all : List D → List D} (hrec : n ≠ 0 → NumOk rec all (Gs (n - 1)) c (run (g fuel) k f_numbers)) (hall : ∀ ys, ys.length ≤ 4 → (∀ y ∈ ys, Gs (n - 1) y) → (all ys).length ≤ c)
    {y src : D} (hy : Gs n y) {S0 : Sto} {hs hb h : Nat} {xs bh fnd sts nh : List D} {rows : List (List D)} {at_ : Int} {S : Sto} {o6 o7 o8 o9 o10 : Option D}
    (N : NI S0 hs hb h xs bh S fnd sts nh rows at_) (hf : fnd.length ≤ 10) (hx : xs.length + sts.length + 1 + 3 * c ≤ 100000) (hb' : bh.length + nh.length + 1 + 3 * c ≤ 100000) {K : K2}
    (hQ : ∀ S' nh' o6 o7 o8 o9 o10, NI S0 hs hb h xs bh S' (fnd ++ [.int at_]) (sts ++ (y :: (blkD y).flatMap fun b => all (itemsD b))) (nh ++ nh') (rows ++ ((numB rec (blkD y) (at_ + 1)).1 :: (numB rec (blkD y) (at_ + 1)).2.2)) (numB rec (blkD y) (at_ + 1)).2.1 →
      nh'.length = 1 + ((blkD y).flatMap fun b => all (itemsD b)).length → K .nx [some src, some (.int (numB rec (blkD y) (at_ + 1)).2.1), some (.hd hs), some (.hd hb), some (.hd h), some y, o6, o7, o8, o9, o10] S') :
    wpB (envOf (g fuel) k) numBody [some src, some (.int at_), some (.hd hs), some (.hd hb), some (.hd h), some y, o6, o7, o8, o9, o10] K S := by
  obtain ⟨i1, i2, i3, i4, i5, i6, i7, i8, i9, i10, i11, i12, i13⟩ := N
  have hne1 : h ≠ hs := by omega
  have hne2 : h ≠ hb := by omega
  refine b_set (.int at_) rfl ?_
  -- found.append(own)
  refine b_app (m := h) (xs := fnd) (.int at_) rfl i2 rfl (big (by omega)) ?_
  have a1 : (S.set h (.lst (fnd ++ [.int at_])))[h]? = some (.lst (fnd ++ [.int at_])) := get_set i2
  have a2 := get_set_ne (o := .lst (fnd ++ [.int at_])) i4 hne1
  have a3 := get_set_ne (o := .lst (fnd ++ [.int at_])) i5 hne2
  generalize hS1 : S.set h (.lst (fnd ++ [.int at_])) = S1 at a1 a2 a3
  -- statements.append(one)
  refine b_app (m := hs) (xs := xs ++ sts) y rfl a2 rfl (big (by simp only [List.length_append]; omega)) ?_
  have c1 := get_set_ne (o := .lst (xs ++ sts ++ [y])) a1 (Ne.symm hne1)
  have c2 : (S1.set hs (.lst (xs ++ sts ++ [y])))[hs]? = some (.lst (xs ++ sts ++ [y])) := get_set a2
  have c3 := get_set_ne (o := .lst (xs ++ sts ++ [y])) a3 i13
  generalize hS2 : S1.set hs (.lst (xs ++ sts ++ [y])) = S2 at c1 c2 c3
  -- blocks.append([])
  refine b_appN (m := hb) (xs := bh ++ nh) rfl c3 (big (by simp only [List.length_append]; omega)) ?_
  have l2 : S2.length = S.length := by rw [← hS2, ← hS1]; simp
  have r1 : (S2 ++ [Ob.lst []])[S2.length]? = some (.lst []) := get_new
  have hbr : hb ≠ S2.length := Nat.ne_of_lt (lt_of_get c3)
  generalize hS3 : (S2 ++ [Ob.lst []]).set hb (.lst (bh ++ nh ++ [.hd S2.length])) = S3
  have d1 : S3[h]? = some (.lst (fnd ++ [.int at_])) := by rw [← hS3]; exact get_set_ne (get_push c1) (Ne.symm hne2)
  have d2 : S3[hs]? = some (.lst (xs ++ sts ++ [y])) := by rw [← hS3]; exact get_set_ne (get_push c2) (Ne.symm i13)
  have d3 : S3[hb]? = some (.lst (bh ++ nh ++ [.hd S2.length])) := by rw [← hS3]; exact get_set (get_push c3)
  have d4 : S3[S2.length]? = some (.lst []) := by rw [← hS3]; exact get_set_ne r1 hbr
  have l3 : S3.length = S.length + 1 := by rw [← hS3]; simp [l2]
  have keep3 : ∀ q o, S[q]? = some o → q ≠ h → q ≠ hs → q ≠ hb → S3[q]? = some o := fun q o e n1 n2 n3 => by
    rw [← hS3]
    refine get_set_ne (get_push ?_) (Ne.symm n3)
    rw [← hS2]
    refine get_set_ne ?_ (Ne.symm n2)
    rw [← hS1]
    exact get_set_ne e (Ne.symm n1)
  refine b_set (.int (at_ + 1)) (by simp [pu]) ?_
  refine b_new ?_
  generalize hS4 : S3 ++ [Ob.lst []] = S4
  have p1 : S4[S3.length]? = some (.lst []) := by rw [← hS4]; exact get_new
  have k4 : ∀ q o, S3[q]? = some o → S4[q]? = some o := fun q o e => by rw [← hS4]; exact get_push e
  have slt : S0.length ≤ S.length := by have := lt_of_get i2; omega
  have nhlt : ∀ x ∈ nh, ∀ q, x = .hd q → q < S.length ∧ q ≠ h ∧ S0.length ≤ q := by
    have : ∀ {hs : List D} {rows : List (List D)}, Rows S hs rows → ∀ x ∈ hs, ∀ q, x = .hd q → q < S.length := fun {hs rows} q => by
      induction q with
      | nil => intro x hx; cases hx
      | cons e _ ih =>
        intro x hx q hq
        rcases List.mem_cons.mp hx with rfl | hx
        · cases hq; exact lt_of_get e
        · exact ih x hx q hq
    intro x hx q hq
    refine ⟨this i7 x hx q hq, fun z => ?_, ?_⟩
    · subst z
      subst hq
      exact i9 hx
    · obtain ⟨q', e', h'⟩ := i6 x hx
      rw [hq] at e'
      cases e'
      exact h'
  have N4 : NI S0 hs hb h xs bh S4 (fnd ++ [.int at_]) (sts ++ [y]) (nh ++ [.hd S2.length]) (rows ++ [[]]) (at_ + 1) := by
    refine ⟨i1, k4 _ _ d1, fun q o e n1 n2 => k4 _ _ (keep3 q o (i3 q o e n1 n2) (by have := lt_of_get e; omega) n1 n2), ?_, ?_, ?_, ?_, ?_, ?_, ?_, i11, i12, i13⟩
    · have := k4 _ _ d2
      rw [List.append_assoc] at this
      exact this
    · have := k4 _ _ d3
      rw [List.append_assoc] at this
      exact this
    · exact i6.append fun x hx => ⟨S2.length, by simpa using hx, by omega⟩
    · refine Rows.append ?_ (.cons (k4 _ _ d4) .nil)
      have : ∀ {hl : List D} {rl : List (List D)}, Rows S hl rl → (∀ x ∈ hl, x ∈ nh) → Rows S4 hl rl := fun {hl rl} q => by
        induction q with
        | nil => intro _; exact .nil
        | @cons q row hl rl e _ ih =>
          intro hm
          have hq := nhlt (.hd q) (hm _ List.mem_cons_self) q rfl
          exact .cons (k4 _ _ (keep3 q _ e hq.2.1 (by omega) (by omega))) (ih fun x hx => hm x (List.mem_cons_of_mem _ hx))
      exact this i7 fun x hx => hx
    · refine List.nodup_append.mpr ⟨i8, by simp, fun x hx z hz e => ?_⟩
      rw [List.mem_singleton.mp hz] at e
      have := (nhlt x hx _ e).1
      omega
    · intro z
      rcases List.mem_append.mp z with z | z
      · exact i9 z
      · have z := List.mem_singleton.mp z
        injection z with z
        have := lt_of_get i2
        omega
    · rw [i10]
      simp only [List.length_append, List.length_cons, List.length_nil]
      omega
  refine chain (p := S3.length) hy fun v a10 hv => ?_
  refine b_for ?_
  have hb4 := hy.blk
  rcases hv with rfl | ⟨hbe, rfl⟩
  · refine wi_seqT (xs := blkD y) ?_
    simp
    by_cases hn : n = 0
    · have hbe : blkD y = [] := by
        cases hq : blkD y with
        | nil => rfl
        | cons b r => exact absurd hn (hb4.2 b (by rw [hq]; simp)).1
      rw [hbe]
      refine wp_for_st (fun i σ S' => σ = [some src, some (.int (at_ + 1)), some (.hd hs), some (.hd hb), some (.hd h), some y, some (.int at_), some (.lst []), o8, o9, a10] ∧ S' = S4) ⟨rfl, rfl⟩ (fun i d σ S' e => by simp at e) ?_
      rintro σ S' ⟨rfl, rfl⟩
      refine b_nil ?_
      rw [hbe] at hQ
      exact hQ _ [.hd S2.length] _ _ _ _ _ (by simpa [numB] using N4) (by simp)
    · refine parts_loop (hrec hn) hb4.1 (fun b hb => (hb4.2 b hb).2) (t := a10) N4 ?_ i7.length ?_ ?_ hall ?_
      · rw [i10]; simp
      · simp only [List.length_append, List.length_cons, List.length_nil]; omega
      · omega
      · intro S' nh1 o8 o9 N5 hl5
        refine b_nil ?_
        refine hQ S' (.hd S2.length :: nh1) _ _ _ _ _ ?_ ?_
        · have e : sts ++ [y] ++ (blkD y).flatMap (fun b => all (itemsD b)) = sts ++ (y :: (blkD y).flatMap fun b => all (itemsD b)) := by simp
          rw [e] at N5
          exact N5
        · simp only [List.length_cons, hl5]; omega
  · refine wi_seqH (m := S3.length) (xs := []) ?_
    simp
    refine ⟨p1, ?_⟩
    refine wp_for_ha (ds := []) (fun i σ S' => σ = [some src, some (.int (at_ + 1)), some (.hd hs), some (.hd hb), some (.hd h), some y, some (.int at_), some (.hd S3.length), o8, o9, a10] ∧ S' = S4) ⟨rfl, rfl⟩ (fun i σ S' h => by rw [h.2]; exact p1) (fun i d σ S' e => by simp at e) ?_
    rintro σ S' ⟨rfl, rfl⟩
    refine b_nil ?_
    rw [hbe] at hQ
    exact hQ _ [.hd S2.length] _ _ _ _ _ (by simpa [numB] using N4) (by simp)
end K25
namespace K25
open PySem Mp L2
theorem numbers_step {n k c : Nat} {rec : List D → Int → Nu} {all : List D → List D} (hrec : n ≠ 0 → NumOk rec all (Gs (n - 1)) c (run (g fuel) k f_numbers)) (hall : ∀ ys, ys.length ≤ 4 → (∀ y ∈ ys, Gs (n - 1) y) → (all ys).length ≤ c) :
    NumOk (numL rec) (allL all) (Gs n) (4 * (1 + 3 * c)) (run (g fuel) (k + 1) f_numbers) := by
  intro ys src S Q xs bh hs hb at_ hsrc hy4 hyP h1 h2 h3 h4 h5 h6 hQ
  refine wp_run fn_numbers rfl ?_
  show wpB (envOf (g fuel) k) b_numbers [some src, some (.int at_), some (.hd hs), some (.hd hb), none, none, none, none, none, none, none] (fun f _ S' => match f with
    | .rt d => Q d S'
    | .nx => Q .non S'
    | _ => False) S
  rw [b_numbers_eq]
  refine b_new ?_
  refine b_for ?_
  have hle : ∀ y ∈ ys, (y :: (blkD y).flatMap fun b => all (itemsD b)).length ≤ 1 + 3 * c := fun y hm => by
    obtain ⟨b1, b2⟩ := (hyP y hm).blk
    rw [List.length_cons]
    have h2 := flat_le (xs := blkD y) (f := fun b => all (itemsD b)) (c := c) fun b hb => by
      obtain ⟨_, zs, rfl, hz, hz'⟩ := b2 b hb
      exact hall zs hz hz'
    have := Nat.mul_le_mul_right c b1
    omega
  have loop : wp (atCap (.st ys) fuel fun q => loopF (.st ys) (fun x σ => evT (envOf (g fuel) k) (.nm 5) x σ) (fun σ => evB (envOf (g fuel) k) numBody σ) q 0 [some src, some (.int at_), some (.hd hs), some (.hd hb), some (.hd S.length), none, none, none, none, none, none])
      (fun x S2 => thenB (envOf (g fuel) k) (.cons (.ret (.yes (.tup (.cons (.loc 4) (.cons (.loc 1) .nil))))) .nil) (fun f _ S' => match f with
    | .rt d => Q d S'
    | .nx => Q .non S'
    | _ => False) x.1 x.2 S2) (S ++ [Ob.lst []]) := by
    refine wp_for_st (fun i σ S' => ∃ o5 o6 o7 o8 o9 o10 nh, σ = [some src, some (.int (numL rec (ys.take i) at_).2.1), some (.hd hs), some (.hd hb), some (.hd S.length), o5, o6, o7, o8, o9, o10] ∧
        NI S hs hb S.length xs bh S' (numL rec (ys.take i) at_).1 (allL all (ys.take i)) nh (numL rec (ys.take i) at_).2.2 (numL rec (ys.take i) at_).2.1 ∧ nh.length = (allL all (ys.take i)).length)
      ⟨none, none, none, none, none, none, [], rfl, ⟨Nat.le_refl _, get_new, fun i o e _ _ => get_push e, by simpa using get_push h1, by simpa using get_push h2, fun x hx => (by cases hx), .nil, List.nodup_nil, by simp, by simpa [numL] using h6, lt_of_get h1, lt_of_get h2, h3⟩, rfl⟩ ?_ ?_
    · rintro i y σ S1 hi ⟨o5, o6, o7, o8, o9, o10, nh, rfl, N, hl⟩
      have hilt := (List.getElem?_eq_some_iff.mp hi).1
      have hsum : (allL all (ys.take i)).length ≤ i * (1 + 3 * c) := by
        have h1 := flat_le (xs := ys.take i) (f := fun y => y :: (blkD y).flatMap fun b => all (itemsD b)) (c := 1 + 3 * c) fun y hm => hle y (List.mem_of_mem_take hm)
        refine Nat.le_trans h1 (Nat.mul_le_mul_right _ ?_)
        rw [List.length_take]; omega
      have hi3 : i * (1 + 3 * c) ≤ 3 * (1 + 3 * c) := Nat.mul_le_mul_right _ (by omega)
      refine t_nm ?_
      show wpB (envOf (g fuel) k) numBody _ (fun f σ S => Turn1 (f, σ) S _ _) S1
      refine body_step hrec hall (hyP y (List.mem_of_getElem? hi)) N (by rw [numL_at, List.length_take]; omega) (by omega) (by omega) fun S' nh' o6 o7 o8 o9 o10 N' hl' => ?_
      have e1 : numL rec (ys.take (i + 1)) at_ = ((numL rec (ys.take i) at_).1 ++ [.int (numL rec (ys.take i) at_).2.1], (numB rec (blkD y) ((numL rec (ys.take i) at_).2.1 + 1)).2.1, (numL rec (ys.take i) at_).2.2 ++ ((numB rec (blkD y) ((numL rec (ys.take i) at_).2.1 + 1)).1 :: (numB rec (blkD y) ((numL rec (ys.take i) at_).2.1 + 1)).2.2)) := by
        rw [take_snoc hi, numL_snoc]
      have e2 : allL all (ys.take (i + 1)) = allL all (ys.take i) ++ (y :: (blkD y).flatMap fun b => all (itemsD b)) := by
        rw [take_snoc hi]
        show List.flatMap _ _ = _
        rw [List.flatMap_append]
        simp
      show ∃ o5 o6 o7 o8 o9 o10 nh, _ = _ ∧ _ ∧ _
      refine ⟨some y, o6, o7, o8, o9, o10, nh ++ nh', ?_, ?_, ?_⟩
      · rw [e1]
      · rw [e1, e2]
        exact N'
      · rw [e2, List.length_append, List.length_append, hl, hl', List.length_cons]
        omega
    · rintro σ S1 ⟨o5, o6, o7, o8, o9, o10, nh, rfl, N, hl⟩
      rw [List.take_length] at N hl ⊢
      refine then_nx (b_retP (.tup [.hd S.length, .int (numL rec ys at_).2.1]) (by simp [pu, puEs, sl2]) (hQ _ S1 nh N hl))
  rcases hsrc with rfl | rfl
  · refine wi_seqT (xs := ys) ?_
    simp
    exact loop
  · refine wi_seqT (xs := ys) ?_
    simp
    exact loop
theorem sp_numbers : ∀ (n k : Nat), NumOk (num n) (allS n) (Gs n) (cnt n) (run (g fuel) (k + n + 1) f_numbers)
  | 0, k => by
    have h := numbers_step (fuel := fuel) (n := 0) (k := k) (c := 0) (rec := fun _ at_ => ([], at_, [])) (all := fun _ => []) (fun h => absurd rfl h) (fun ys _ _ => Nat.zero_le _)
    have e : ∀ ys, (∀ y ∈ ys, Gs 0 y) → allL (fun _ => []) ys = ys := fun ys hy => by
      induction ys with
      | nil => rfl
      | cons y r ih =>
        show List.flatMap _ _ = _
        rw [List.flatMap_cons]
        have e1 : (blkD y).flatMap (fun _ : D => ([] : List D)) = [] := by simp
        have ih' := ih fun z hz => hy z (List.mem_cons_of_mem _ hz)
        have ih'' : List.flatMap (fun y => y :: (blkD y).flatMap fun _ => ([] : List D)) r = r := ih'
        rw [ih'', e1]
        rfl
    intro ys src S Q xs bh hs hb at_ a1 a2 a3 a4 a5 a6 a7 a8 a9 hQ
    refine h ys src S Q xs bh hs hb at_ a1 a2 a3 a4 a5 a6 a7 a8 a9 ?_
    rw [e ys a3]
    exact hQ
  | n + 1, k => by
    have h := numbers_step (fuel := fuel) (n := n + 1) (k := k + n + 1) (fun _ => sp_numbers n k) fun ys a b => allS_len a b
    exact h
end K25
set_option Elab.async false
set_option linter.all false
set_option maxRecDepth 100000
set_option maxHeartbeats 1000000
namespace K25
open PySem Mp L2
/-! ### data of bounded depth -/
def Dat : Nat → D → Prop
  | _, .non => True
  | _, .bl _ => True
  | _, .int _ => True
  | _, .str _ => True
  | n + 1, .tup xs => xs.length ≤ 100000 ∧ ∀ x ∈ xs, Dat n x
  | _, _ => False
theorem Dat.up1 : ∀ {n : Nat} {d : D}, Dat n d → Dat (n + 1) d
  | n, .non, _ => trivial
  | n, .bl _, _ => trivial
  | n, .int _, _ => trivial
  | n, .str _, _ => trivial
  | 0, .tup _, h => h.elim
  | n + 1, .tup xs, h => ⟨h.1, fun x hx => Dat.up1 (h.2 x hx)⟩
  | 0, .lst _, h => h.elim
  | 0, .dk _, h => h.elim
  | 0, .hd _, h => h.elim
  | 0, .scr _, h => h.elim
  | _ + 1, .lst _, h => h.elim
  | _ + 1, .dk _, h => h.elim
  | _ + 1, .hd _, h => h.elim
  | _ + 1, .scr _, h => h.elim
theorem Dat.up {n m : Nat} {d : D} (h : Dat n d) (hm : n ≤ m) : Dat m d := by
  induction hm with
  | refl => exact h
  | step _ ih => exact ih.up1
theorem dat_i {n : Nat} {i : Int} : Dat n (.int i) := by cases n <;> trivial
theorem dat_s {n : Nat} {s : Str} : Dat n (.str s) := by cases n <;> trivial
theorem dat_n {n : Nat} : Dat n .non := by cases n <;> trivial
theorem dat_t {n : Nat} {xs : List D} (hl : xs.length ≤ 100000) (h : ∀ x ∈ xs, Dat n x) : Dat (n + 1) (.tup xs) := ⟨hl, h⟩
theorem dat2 {n : Nat} {a b : D} (h1 : Dat n a) (h2 : Dat n b) : Dat (n + 1) (.tup [a, b]) := dat_t (by simp) fun x hx => by
  simp only [List.mem_cons, List.not_mem_nil, or_false] at hx
  rcases hx with rfl | rfl
  · exact h1
  · exact h2
theorem dat1 {n : Nat} {a : D} (h1 : Dat n a) : Dat (n + 1) (.tup [a]) := dat_t (by simp) fun x hx => by
  rw [List.mem_singleton.mp hx]; exact h1
theorem dat3 {n : Nat} {a b c : D} (h1 : Dat n a) (h2 : Dat n b) (h3 : Dat n c) : Dat (n + 1) (.tup [a, b, c]) := dat_t (by simp) fun x hx => by
  simp only [List.mem_cons, List.not_mem_nil, or_false] at hx
  rcases hx with rfl | rfl | rfl
  · exact h1
  · exact h2
  · exact h3
theorem dat4 {n : Nat} {a b c d : D} (h1 : Dat n a) (h2 : Dat n b) (h3 : Dat n c) (h4 : Dat n d) : Dat (n + 1) (.tup [a, b, c, d]) := dat_t (by simp) fun x hx => by
  simp only [List.mem_cons, List.not_mem_nil, or_false] at hx
  rcases hx with rfl | rfl | rfl | rfl
  · exact h1
  · exact h2
  · exact h3
  · exact h4
section
variable {N : Nm}
theorem Ix.dat {e : D} (h : Ix N e) : Dat 1 e := by
  rcases h with ⟨i, _, _, rfl⟩ | ⟨x, _, rfl⟩
  · exact dat2 dat_s dat_i
  · exact dat2 dat_s dat_s
theorem Ex.dat {n : Nat} {d : D} (h : Ex N n d) : Dat (n + 2) d := by
  induction h with
  | num n i h1 h2 => exact (dat2 (n := 0) dat_s dat_i).up (by omega)
  | cell n a e h1 h2 => exact (dat3 (n := 1) dat_s dat_s h2.dat).up (by omega)
  | len n a h => exact (dat2 (n := 0) dat_s dat_s).up (by omega)
  | me n => exact (dat1 (n := 0) dat_s).up (by omega)
  | name n x h => exact (dat2 (n := 0) dat_s dat_s).up (by omega)
  | un n s e h1 h2 ih => exact dat2 dat_s ih
  | op n s a b h1 h2 h3 i1 i2 => exact dat4 dat_s dat_s i1 i2
theorem Tg.dat {d : D} (h : Tg N d) : Dat 2 d := by
  cases h with
  | cell a e h1 h2 => exact dat3 dat_s dat_s h2.dat
  | name x h => exact (dat2 (n := 0) dat_s dat_s).up (by omega)
theorem Pl.dat {d : D} (h : Pl N d) : Dat 5 d := by
  cases h with
  | skip => exact (dat1 (n := 0) dat_s).up (by omega)
  | pick t i h1 h2 h3 => exact (dat4 (n := 2) dat_s h1.dat dat_i dat_i).up (by omega)
  | asr e h => exact dat2 dat_s h.dat
  | set t e h1 h2 => exact dat3 dat_s (h1.dat.up (by omega)) h2.dat
theorem Leaf.dat {d : D} (h : Leaf N d) : Dat 7 d := by
  cases h with
  | plain _ h => exact h.dat.up (by omega)
  | mark s h => exact (dat2 (n := 0) dat_s dat_s).up (by omega)
  | wait e h => exact (dat2 dat_s h.dat).up (by omega)
  | send q e _ h => exact (dat3 dat_s dat_s h.dat).up (by omega)
  | receive q t _ h => exact (dat3 dat_s dat_s h.dat).up (by omega)
  | stop => exact (dat1 (n := 0) dat_s).up (by omega)
  | atomic xs h1 h2 h3 =>
    refine dat2 dat_s (dat_t (by omega) fun x hx => ?_)
    rcases h3 x hx with h | ⟨e, h, rfl⟩
    · exact h.dat
    · exact dat2 dat_s h.dat
theorem w_ne : ∀ s ∈ [("skip" : Str), "pick", "assert", "set", "mark", "wait", "send", "receive", "stop", "atomic"], s ≠ "if" ∧ s ≠ "while" ∧ s ≠ "choose" ∧ (s ≠ "atomic" ∨ s = "atomic") := by decide +kernel
theorem w_at : ∀ s ∈ [("skip" : Str), "pick", "assert", "set", "mark", "wait", "send", "receive", "stop"], s ≠ "atomic" := by decide +kernel
theorem gleaf {s : Str} {rest : List D} (h : s ∈ [("skip" : Str), "pick", "assert", "set", "mark", "wait", "send", "receive", "stop"]) : GLeaf (.tup (.str s :: rest)) := by
  have h1 := w_ne s (by
    simp only [List.mem_cons, List.not_mem_nil, or_false] at h ⊢
    rcases h with h | h | h | h | h | h | h | h | h <;> simp [h])
  exact ⟨s, rest, rfl, h1.1, h1.2.1, h1.2.2.1, fun z => absurd z (w_at s h)⟩
theorem Pl.gl {d : D} (h : Pl N d) : GLeaf d := by
  cases h with
  | skip => exact gleaf (by simp)
  | pick t i _ _ _ => exact gleaf (by simp)
  | asr e _ => exact gleaf (by simp)
  | set t e _ _ => exact gleaf (by simp)
theorem Leaf.gl {d : D} (h : Leaf N d) : GLeaf d := by
  cases h with
  | plain _ h => exact h.gl
  | mark s h => exact gleaf (by simp)
  | wait e h => exact gleaf (by simp)
  | send q e _ h => exact gleaf (by simp)
  | receive q t _ h => exact gleaf (by simp)
  | stop => exact gleaf (by simp)
  | atomic xs h1 h2 h3 =>
    have := w_ne "atomic" (by simp)
    exact ⟨_, _, rfl, this.1, this.2.1, this.2.2.1, fun _ => ⟨xs, rfl, h1⟩⟩
theorem St.gs : ∀ {n : Nat} {d : D}, St N n d → Gs n d ∧ Dat (7 + 4 * n) d
  | 0, d, h => ⟨Leaf.gl h, Leaf.dat h⟩
  | n + 1, d, h => by
    have blk : ∀ ys : List D, ys.length ≤ 2 → (∀ y ∈ ys, St N n y) → GB (Gs n) (.tup ys) ∧ Dat (7 + 4 * n + 1) (.tup ys) := fun ys hl hy =>
      ⟨⟨ys, rfl, by omega, fun y hm => (St.gs (hy y hm)).1⟩, dat_t (by omega) fun y hm => (St.gs (hy y hm)).2⟩
    rcases h with h | ⟨bs, e, rfl, h2, h3, h4, h5⟩ | ⟨bs, rfl, h2, h3, h4⟩ | ⟨t, ys, rfl, h2, h3, h4⟩
    · exact ⟨.inl h.gl, h.dat.up (by omega)⟩
    · refine ⟨.inr (.inl ⟨bs, e, rfl, h2, h3, fun c hc => ?_, ?_⟩), dat3 (n := 7 + 4 * n + 3) dat_s ?_ ?_⟩
      · obtain ⟨t, ys, rfl, _, hl, hy⟩ := h4 c hc
        exact ⟨t, _, rfl, (blk ys hl hy).1⟩
      · rcases h5 with rfl | ⟨ys, rfl, hl, hy⟩
        · exact .inl rfl
        · exact .inr (blk ys hl hy).1
      · refine dat_t (n := 7 + 4 * n + 2) (by omega) fun c hc => ?_
        obtain ⟨t, ys, rfl, ht, hl, hy⟩ := h4 c hc
        exact dat2 (n := 7 + 4 * n + 1) (ht.dat.up (by omega)) (blk ys hl hy).2
      · rcases h5 with rfl | ⟨ys, rfl, hl, hy⟩
        · exact dat_n
        · exact (blk ys hl hy).2.up (by omega)
    · refine ⟨.inr (.inr (.inl ⟨bs, rfl, h2, h3, fun b hb => ?_⟩)), (dat2 (n := 7 + 4 * n + 2) dat_s ?_).up (by omega)⟩
      · obtain ⟨ys, rfl, hl, hy⟩ := h4 b hb
        exact (blk ys hl hy).1
      · refine dat_t (by omega) fun b hb => ?_
        obtain ⟨ys, rfl, hl, hy⟩ := h4 b hb
        exact (blk ys hl hy).2
    · exact ⟨.inr (.inr (.inr ⟨t, _, rfl, (blk ys h3 h4).1⟩)), (dat3 (n := 7 + 4 * n + 1) dat_s (h2.dat.up (by omega)) (blk ys h3 h4).2).up (by omega)⟩
end
end K25
set_option Elab.async false
set_option linter.all false
set_option maxRecDepth 100000
set_option maxHeartbeats 1000000
namespace K25
open PySem Mp L2
/-- a statement's first word, and what an atomic one holds -/
def Hd (d : D) : Prop := ∃ s rest, d = .tup (.str s :: rest) ∧ (s = "atomic" → ∃ xs, rest = [.tup xs] ∧ xs.length ≤ 3)
theorem a_ne : ("if" : Str) ≠ "atomic" ∧ ("choose" : Str) ≠ "atomic" ∧ ("while" : Str) ≠ "atomic" := ⟨by decide +kernel, by decide +kernel, by decide +kernel⟩
theorem GLeaf.hd {d : D} (h : GLeaf d) : Hd d := let ⟨s, r, e, _, _, _, q⟩ := h; ⟨s, r, e, q⟩
theorem Gs.hd : ∀ {n : Nat} {d : D}, Gs n d → Hd d
  | 0, d, h => GLeaf.hd h
  | n + 1, d, h => by
    rcases h with h | ⟨cs, e, rfl, _⟩ | ⟨bs, rfl, _⟩ | ⟨t, b, rfl, _⟩
    · exact GLeaf.hd h
    · exact ⟨_, _, rfl, fun z => absurd z a_ne.1⟩
    · exact ⟨_, _, rfl, fun z => absurd z a_ne.2.1⟩
    · exact ⟨_, _, rfl, fun z => absurd z a_ne.2.2⟩
theorem allS_all : ∀ {n : Nat} {ys : List D}, (∀ y ∈ ys, Gs n y) → ∀ y ∈ allS n ys, Gs n y
  | 0, ys, h, y, hy => h y hy
  | n + 1, ys, h, y, hy => by
    obtain ⟨z, hz, hy⟩ := List.mem_flatMap.mp hy
    rcases List.mem_cons.mp hy with rfl | hy
    · exact h y hz
    · obtain ⟨b, hb, hy⟩ := List.mem_flatMap.mp hy
      obtain ⟨_, zs, rfl, _, hzs⟩ := (h z hz).blk.2 b hb
      exact (allS_all hzs y hy).up
/-- objects but the counter stand still; new ones may come -/
structure Gw (n : Nat) (S S' : Sto) : Prop where
  len : S.length ≤ S'.length
  cell : Cell S' n
  keep : ∀ i o, i ≠ n → S[i]? = some o → S'[i]? = some o
theorem Dr.gw {n : Nat} {S S' : Sto} (c : Cell S n) (d : Dr n S S') : Gw n S S' := by
  have c' := d.cell c
  obtain ⟨o, _, rfl⟩ := d
  exact ⟨by simp, c', fun i u hi e => get_set_ne e (Ne.symm hi)⟩
theorem Gw.trans {n : Nat} {S S1 S2 : Sto} (a : Gw n S S1) (b : Gw n S1 S2) : Gw n S S2 := ⟨Nat.le_trans a.len b.len, b.cell, fun i o hi e => b.keep i o hi (a.keep i o hi e)⟩
theorem Gw.refl {n : Nat} {S : Sto} (c : Cell S n) : Gw n S S := ⟨Nat.le_refl _, c, fun _ _ _ e => e⟩
/-- all objects stand still, new ones may come -/
def Ge (S S' : Sto) : Prop := S.length ≤ S'.length ∧ ∀ (i : Nat) (o : Ob), S[i]? = some o → S'[i]? = some o
theorem Ge.trans {S S1 S2 : Sto} (a : Ge S S1) (b : Ge S1 S2) : Ge S S2 := ⟨Nat.le_trans a.1 b.1, fun i o e => b.2 i o (a.2 i o e)⟩
theorem Ge.gw {n : Nat} {S S' : Sto} (c : Cell S n) (h : Ge S S') : Gw n S S' := ⟨h.1, let ⟨o, e, ho⟩ := c; ⟨o, h.2 n o e, ho⟩, fun i o _ e => h.2 i o e⟩
theorem Ge.push {S : Sto} {o : Ob} : Ge S (S ++ [o]) := ⟨by simp, fun i u e => get_push e⟩
theorem fn_many : (g fuel).fns f_many = ⟨3, 1, b_many⟩ := rfl
theorem ints_ok : ∀ (ns : List Int), intsOf (ns.map D.int) = some ns
  | [] => rfl
  | n :: r => by
    show (intsOf (r.map D.int)).map (n :: ·) = _
    rw [ints_ok r]
    rfl
theorem cnt_le {n : Nat} (h : n ≤ 4) : cnt n ≤ 95000 := by
  match n, h with
  | 0, _ => decide
  | 1, _ => decide
  | 2, _ => decide
  | 3, _ => decide
  | 4, _ => decide
theorem sp_many {n k : Nat} (hn : n ≤ 4) {ys : List D} (hl : ys.length ≤ 4) (hy : ∀ y ∈ ys, Gs n y) {S : Sto} {Q : D → Sto → Prop} (q : ∀ (z : Int) S', Ge S S' → Q (.int z) S') : wp (run (g fuel) (k + n + 2) f_many [.lst ys]) Q S := by
  refine wp_run fn_many rfl ?_
  show wpB (envOf (g fuel) (k + n + 1)) b_many [some (.lst ys), none, none] (fun f _ S' => match f with
    | .rt d => Q d S'
    | .nx => Q .non S'
    | _ => False) S
  have hc := cnt_le hn
  refine b_new ?_
  refine b_ex ?_
  simp
  refine sp_numbers n k ys (.lst ys) _ _ [] [] S.length (S.length + 1) 1 (.inr rfl) hl hy (by simp) (by simp) (by omega) (by simp; omega) (by simp; omega) rfl fun h S' nh N hnh => ?_
  have st := N.st
  simp at st
  have ge : Ge S S' := ⟨by
    have h1 := N.lt.1
    have h2 := lt_of_get N.fo
    have h3 := N.ge
    simp at h3
    omega, fun i o e => N.keep i o (by rw [List.getElem?_append_left (lt_of_get e)]; exact e) (by have := lt_of_get e; omega) (by have := lt_of_get e; omega)⟩
  have hal := allS_len hl hy
  refine b_ret ?_
  simp [len_hd st]
  refine wi_seqH (m := S.length) (xs := allS n ys) ?_
  simp
  refine ⟨st, ?_⟩
  refine wp_comp_ha (ds := allS n ys) (fun i acc S'' => S'' = S' ∧ acc.length ≤ i ∧ ∃ ns : List Int, acc = ns.map D.int) ⟨rfl, Nat.le_refl _, [], rfl⟩ (fun i acc S'' h => by rw [h.1]; exact st) ?_ ?_
  · rintro i d acc S'' hd ⟨rfl, hlen, ns, rfl⟩
    obtain ⟨s, rest, rfl, ha⟩ := (allS_all hy d (List.mem_of_getElem? hd)).hd
    refine t_nm ?_
    simp [wipeD]
    by_cases hs : s = "atomic"
    · obtain ⟨xs, rfl, _⟩ := ha hs
      subst hs
      simp
      exact ⟨by simpa using hlen, ns ++ [(xs.length : Int)], by simp⟩
    · simp [hs]
      exact ⟨by simp at hlen; omega, ns, rfl⟩
  · rintro acc S'' ⟨rfl, hlen, ns, rfl⟩
    refine ⟨Nat.le_of_lt (big (by omega)), .int ns.sum, ?_, ?_⟩
    · show ((some (ns.map D.int)).bind intsOf).map (fun ns => D.int ns.sum) = _
      rw [Option.bind_some, ints_ok]
      rfl
    · simp
      exact q _ _ ge
end K25
set_option Elab.async false
set_option linter.all false
set_option maxRecDepth 100000
set_option maxHeartbeats 1000000
namespace K25
open PySem Mp L2
theorem fn_process : (g fuel).fns f_process = ⟨9, 4, b_process⟩ := rfl
/-- a variable's row -/
def Var (x : Str) (size hi first : Int) : D := .tup [.str ("var" : Str), .str x, .int size, .int 0, .int hi, .int first]
structure Proc (nm : Str) (cp : Int) (d : D) (own body : List D) : Prop where
  eq : d = .tup [.str ("process" : Str), .str nm, .int cp, .tup own, .tup body]
  own_ : own = [] ∨ ∃ i : Int, own = [Var "v" 0 1 i]
  len : body.length ≤ 4
  gs : ∀ y ∈ body, Gs 2 y ∧ Dat 16 y
theorem Dr.ge_gw {n : Nat} {S S' : Sto} (c : Cell S n) (d : Dr n S S') : Gw n S S' := d.gw c
theorem sp_process {N : Nm} (ok : N.Ok) (hp : N.pl.length ≤ 5) {n k : Nat} {nm : Str} {cp : Int} {S : Sto} {Q : D → Sto → Prop} (c : Cell S n) (h : ∀ d own body S', Proc nm cp d own body → Gw n S S' → Q d S') : wp (run (g fuel) (k + 12) f_process [.hd n, .str nm, .int cp, N.d]) Q S := by
  refine wp_run fn_process rfl ?_
  show wpB (envOf (g fuel) (k + 11)) b_process [some (.hd n), some (.str nm), some (.int cp), some N.d, none, none, none, none, none] (fun f _ S' => match f with
    | .rt d => Q d S'
    | .nx => Q .non S'
    | _ => False) S
  -- behind own: told, body, ..
  have rest : ∀ {S1 : Sto} {own : List D} {N' : Nm} {K : K2}, (∀ d σ S', Q d S' → K (.rt d) σ S') → N'.Ok → Dr n S S1 → (own = [] ∨ ∃ i : Int, own = [Var "v" 0 1 i]) →
      wpB (envOf (g fuel) (k + 11)) (match b_process with | .cons _ (.cons _ r) => r | _ => .nil) [some (.hd n), some (.str nm), some (.int cp), some N.d, some (.tup own), some N'.d, none, none, none] K S1 := fun {S1 own N' K} hK ok' d1 hown => by
    have c1 := d1.cell c
    refine b_asg ?_
    simp
    refine wi_rng1 ?_
    simp
    refine sp_take (k := k + 9) c1 (by decide) (by decide) fun z S2 z0 z1 d2 => ?_
    simp
    refine ⟨⟨by omega, by omega⟩, ?_⟩
    refine comp_draw (d2.cell c1) (PP := fun y => St N' 1 y) (fun i S3 c3 => ?_) (fun xs S3 hl hx d3 => ?_)
    · simp [wipeD]
      exact sp_statement (k := k) ok' 1 c3 fun d S4 hd d4 => ⟨hd, d4⟩
    · refine ⟨slen (by omega), t_nm ?_⟩
      have c3 := d3.cell (d2.cell c1)
      have d13 := d1.trans (d2.trans d3)
      have hx' : ∀ y ∈ xs, Gs 1 y ∧ Dat 11 y := fun y hy => St.gs (hx y hy)
      -- the last part
      have last : ∀ {S4 : Sto} {ys : List D}, Dr n S S4 → ys.length ≤ 4 → (∀ y ∈ ys, Gs 2 y ∧ Dat 16 y) → wpB (envOf (g fuel) (k + 11)) (match b_process with | .cons _ (.cons _ (.cons _ (.cons _ r))) => r | _ => .nil) [some (.hd n), some (.str nm), some (.int cp), some N.d, some (.tup own), some N'.d, some (.lst ys), none, none] K S4 := fun {S4 ys} d4 hl4 hy4 => by
        refine b_ifB ?_
        simp
        refine sp_many (n := 2) (k := k + 7) (by decide) hl4 (fun y hy => (hy4 y hy).1) fun z S5 ge => ?_
        simp
        have gw := (d4.gw c).trans (ge.gw (d4.cell c))
        by_cases hz : (30 : Int) < z
        · refine .inr ⟨hz, ?_⟩
          refine b_set (.lst [.tup [.str ("skip" : Str)]]) (by simp [pu, puEs, sl1]) (b_end ?_)
          refine b_retP (.tup [.str ("process" : Str), .str nm, .int cp, .tup own, .tup [.tup [.str ("skip" : Str)]]]) (by simp [pu, puEs, slen]) (hK _ _ _ (h _ own _ S5 ⟨rfl, hown, by simp, fun y hy => ?_⟩ gw))
          rw [List.mem_singleton.mp hy]
          exact ⟨.leaf (gleaf (by simp)), (dat1 (n := 0) dat_s).up (by omega)⟩
        · refine .inl ⟨by omega, b_end ?_⟩
          exact b_retP (.tup [.str ("process" : Str), .str nm, .int cp, .tup own, .tup ys]) (by simp [pu, puEs, slen]) (hK _ _ _ (h _ own ys S5 ⟨rfl, hown, hl4, hy4⟩ gw))
      refine b_ifB ?_
      simp
      refine sp_take (k := k + 9) c3 (by decide) (by decide) fun y S4 y0 y1 d4 => ?_
      simp
      by_cases hy : (0 : Int) < y
      · refine .inr ⟨hy, ?_⟩
        refine b_set (.lst [.tup [.str ("while" : Str), .tup [.str ("num" : Str), .int 1], .tup xs]]) (by simp [pu, puEs, sl1, sl2, sl3]) (b_end ?_)
        refine last (d13.trans d4) (by simp) fun w hw => ?_
        rw [List.mem_singleton.mp hw]
        exact ⟨.inr (.inr (.inr ⟨_, _, rfl, xs, rfl, by omega, fun y hy => (hx' y hy).1⟩)), (dat3 (n := 12) dat_s ((dat2 (n := 0) dat_s dat_i).up (by omega)) (dat_t (by omega) fun y hy => (hx' y hy).2)).up (by omega)⟩
      · refine .inl ⟨by omega, ?_⟩
        refine b_end (last (d13.trans d4) (by omega) fun w hw => ⟨(hx' w hw).1.up, (hx' w hw).2.up (by omega)⟩)
  refine b_asg ?_
  simp [we_ite]
  refine sp_take (k := k + 9) c (by decide) (by decide) fun y S1 y0 y1 d1 => ?_
  have told : ∀ {S2 : Sto} {own : List D} {K : K2}, (∀ d σ S', Q d S' → K (.rt d) σ S') → Dr n S S2 → (own = [] ∨ ∃ i : Int, own = [Var "v" 0 1 i]) → wpB (envOf (g fuel) (k + 11)) (match b_process with | .cons _ r => r | _ => .nil) [some (.hd n), some (.str nm), some (.int cp), some N.d, some (.tup own), none, none, none, none] K S2 := fun {S2 own K} hK d2 hown => by
    refine b_asg ?_
    simp [Nm.ix0, Nm.ix1, Nm.ix2]
    refine wi_seqT (xs := own) ?_
    simp
    have hol : own.length ≤ 1 := by rcases hown with rfl | ⟨i, rfl⟩ <;> simp
    refine wp_comp_map (fun _ => .str ("v" : Str)) (fun i d hd => ?_) ⟨slen (by rw [List.length_map]; omega), .lst ((N.pl ++ own.map fun _ => ("v" : Str)).map D.str), ?_, sl3, t_nm ?_⟩
    · rcases hown with rfl | ⟨i', rfl⟩
      · simp at hd
      · have hd := List.mem_of_getElem? hd
        rw [List.mem_singleton.mp hd]
        refine t_nm ⟨rfl, ?_⟩
        simp [wipeD, Var]
    · rw [bin_addL rfl rfl (slen (by simp only [List.length_map]; omega))]
      simp
    · refine rest (N' := ⟨N.pl ++ own.map fun _ => ("v" : Str), N.ar, N.ch⟩) hK ⟨by simp [ok.pl0], by simp only [List.length_append, List.length_map]; omega, ok.ar1, ok.ch1⟩ d2 hown
  by_cases hy : y = 0
  · subst hy
    simp
    refine sp_take (k := k + 9) (d1.cell c) (by decide) (by decide) fun z S2 z0 z1 d2 => ⟨slen (by decide), sl1, t_nm ?_⟩
    exact told (fun d σ S' q => q) (d1.trans d2) (.inr ⟨z, rfl⟩)
  · simp [hy]
    exact t_nm (told (fun d σ S' q => q) d1 (.inl rfl))
end K25
set_option Elab.async false
set_option linter.all false
set_option maxRecDepth 100000
set_option maxHeartbeats 1000000
namespace K25
open PySem Mp L2
theorem fn_program : (g fuel).fns f_program = ⟨7, 1, b_program⟩ := rfl
/-- a variable: its name, size, greatest value, first value -/
structure VR where
  nm : Str
  size : Int
  hi : Int
  first : Int
abbrev VR.d (v : VR) : D := Var v.nm v.size v.hi v.first
abbrev Chan (s : Int) : D := .tup [.str ("chan" : Str), .str ("q" : Str), .int s, .int 0, .int 1]
/-- a drawn program -/
structure Prg (d : D) (vs : List VR) (chs : List D) (procs : List D) : Prop where
  eq : d = .tup [.str ("program" : Str), .tup (vs.map VR.d), .tup chs, .tup procs]
  vars : ∃ hi ys ts, vs = ⟨"x", 0, hi, 0⟩ :: (ys ++ ts) ∧ (ys = [] ∨ ∃ i, ys = [⟨"y", 0, 1, i⟩]) ∧ (ts = [] ∨ ts = [⟨"t", 2, 1, 0⟩])
  chans : chs = [] ∨ ∃ s, chs = [Chan s]
  proc : ∃ p cp own body ps, procs = p :: ps ∧ Proc "p" cp p own body ∧ 1 ≤ cp ∧ cp ≤ 2 ∧ (ps = [] ∨ ∃ r own body, ps = [r] ∧ Proc "r" 1 r own body)
theorem Gw.at {n m : Nat} {S S' : Sto} {o : Ob} (w : Gw n S S') (h : S[m]? = some o) (hm : m ≠ n) : S'[m]? = some o := w.keep m o hm h
theorem Gw.dr {n : Nat} {S S1 S2 : Sto} (w : Gw n S S1) (d : Dr n S1 S2) : Gw n S S2 := w.trans (d.gw w.cell)
theorem Gw.setNew {n m : Nat} {S S1 : Sto} {o : Ob} (w : Gw n S S1) (hm : S.length ≤ m) (hn : m ≠ n) : Gw n S (S1.set m o) := by
  refine ⟨by simpa using w.len, ?_, fun i u hi e => get_set_ne (w.keep i u hi e) (by have := lt_of_get e; omega)⟩
  obtain ⟨u, e, hu⟩ := w.cell
  exact ⟨u, get_set_ne e hn, hu⟩
def pS (q : Int → Bool) : D → Bool
  | .tup [_, _, .int s, _, _, _] => q s
  | _ => false
def fN : D → D
  | .tup (_ :: x :: _) => x
  | _ => .non
theorem flt_vs (q : Int → Bool) : ∀ vs : List VR, ((vs.map VR.d).filter (pS q)).map fN = ((vs.filter fun v => q v.size).map VR.nm).map D.str
  | [] => rfl
  | v :: r => by
    have h1 : pS q v.d = q v.size := rfl
    have h2 : fN v.d = .str v.nm := rfl
    rw [List.map_cons, List.filter_cons, List.filter_cons, h1]
    cases q v.size with
    | true =>
      simp only [if_true, List.map_cons, h2]
      rw [flt_vs q r]
    | false =>
      simp only [Bool.false_eq_true, if_false]
      exact flt_vs q r
theorem sp_program {n k : Nat} {S : Sto} {Q : D → Sto → Prop} (c : Cell S n) (h : ∀ d vs chs procs S', Prg d vs chs procs → Gw n S S' → Q d S') : wp (run (g fuel) (k + 13) f_program [.hd n]) Q S := by
  refine wp_run fn_program rfl ?_
  show wpB (envOf (g fuel) (k + 12)) b_program [some (.hd n), none, none, none, none, none, none] (fun f _ S' => match f with
    | .rt d => Q d S'
    | .nx => Q .non S'
    | _ => False) S
  -- behind the channels: the variables at m
  have late : ∀ {S1 : Sto} {m : Nat} {vs : List VR} {chs : List D}, Gw n S S1 → m ≠ n → S1[m]? = some (.lst (vs.map VR.d)) → (∃ hi ys ts, vs = ⟨"x", 0, hi, 0⟩ :: (ys ++ ts) ∧ (ys = [] ∨ ∃ i, ys = [⟨"y", 0, 1, i⟩]) ∧ (ts = [] ∨ ts = [⟨"t", 2, 1, 0⟩])) → (chs = [] ∨ ∃ s, chs = [Chan s]) →
      wpB (envOf (g fuel) (k + 12)) (match b_program with | .cons _ (.cons _ (.cons _ (.cons _ r))) => r | _ => .nil) [some (.hd n), some (.hd m), some (.tup chs), none, none, none, none] (fun f _ S' => match f with
    | .rt d => Q d S'
    | .nx => Q .non S'
    | _ => False) S1 := fun {S1 m vs chs} w hm h1 hv hch => by
    have c1 := w.cell
    have hvl : vs.length ≤ 3 := by
      obtain ⟨hi, ys, ts, rfl, hy, ht⟩ := hv
      have h1 : ys.length ≤ 1 := by rcases hy with rfl | ⟨i, rfl⟩ <;> simp
      have h2 : ts.length ≤ 1 := by rcases ht with rfl | rfl <;> simp
      simp only [List.length_cons, List.length_append]
      omega
    have hcl : chs.length ≤ 1 := by rcases hch with rfl | ⟨s, rfl⟩ <;> simp
    have comp : ∀ {q : Int → Bool} {o : Cop} {σ : Sl} {Q' : List D → Sto → Prop}, (∀ (S : Sto) (i : Int), cmpP S o (.int i) (.int 0) = some (q i)) → σ.length = 7 → Q' (((vs.filter fun v => q v.size).map VR.nm).map D.str) S1 →
        wp (atCap (.ha m) fuel fun k' => loopC (.ha m) (fun x => evT (envOf (g fuel) (k + 12)) (.nm 6) x σ) (fun σ => evC (envOf (g fuel) (k + 12)) (.yes (.cmp o (.ix (.loc 6) (.cst (.int (2)))) (.cst (.int (0))))) σ) (fun σ => evE (envOf (g fuel) (k + 12)) (.ix (.loc 6) (.cst (.int (1)))) σ) k' 0) Q' S1 := fun {q o σ Q'} hq hσ hQ => by
      refine wp_comp_fm_ha (pS q) fN h1 (fun d hd => ?_) (by rw [flt_vs]; exact hQ)
      obtain ⟨v, _, rfl⟩ := List.mem_map.mp hd
      refine t_nm ⟨rfl, ?_⟩
      have e : (σ.set 6 (some v.d))[6]? = some (some v.d) := List.getElem?_set_self (by omega)
      rw [wc_yes]
      refine wp_puT (d := .bl (q v.size)) (k := q v.size) ?_ rfl ⟨rfl, rfl, fun _ => wp_pu (d := .str v.nm) ?_ ⟨rfl, rfl⟩⟩
      · have i2 : ixP S1 v.d (.int 2) = some (.int v.size) := at2
        simp only [pu, e, Option.bind_some, i2, hq, Option.map_some]
      · have i1 : ixP S1 v.d (.int 1) = some (.str v.nm) := at1
        simp only [pu, e, Option.bind_some, i1]
    have hfl : ∀ q : Int → Bool, (((vs.filter fun v => q v.size).map VR.nm).map D.str).length ≤ sizeLine := fun q => slen (by
      rw [List.length_map, List.length_map]
      exact Nat.le_trans (List.length_filter_le _ _) (by omega))
    have c1 := w.cell
    -- plain
    refine b_asg ?_
    simp
    refine wi_seqH (m := m) (xs := vs.map VR.d) ?_
    simp
    refine ⟨h1, comp (q := fun i => decide (i = 0)) (fun _ _ => rfl) rfl ⟨hfl (fun i => decide (i = 0)), t_nm ?_⟩⟩
    -- names
    refine b_asg ?_
    simp
    refine wi_seqH (m := m) (xs := vs.map VR.d) ?_
    simp
    refine ⟨h1, comp (q := fun i => decide (0 < i)) (fun _ _ => rfl) rfl ⟨hfl (fun i => decide (0 < i)), ?_⟩⟩
    refine wi_seqT (xs := chs) ?_
    simp
    refine wp_comp_map (fun _ => .str ("q" : Str)) (fun i d hd => ?_) ⟨slen (by rw [List.length_map]; omega), sl3, t_nm ?_⟩
    · have hd := List.mem_of_getElem? hd
      rcases hch with rfl | ⟨s, rfl⟩
      · cases hd
      · rw [List.mem_singleton.mp hd]
        refine t_nm ⟨rfl, ?_⟩
        simp [wipeD]
    · generalize hN : (⟨(vs.filter fun v => decide (v.size = 0)).map VR.nm, (vs.filter fun v => decide (0 < v.size)).map VR.nm, chs.map fun _ => ("q" : Str)⟩ : Nm) = N
      have hNd : N.d = .lst [.lst ((vs.filter fun v => decide (v.size = 0)).map (D.str ∘ VR.nm)), .lst ((vs.filter fun v => decide (0 < v.size)).map (D.str ∘ VR.nm)), .lst (chs.map fun _ => .str ("q" : Str))] := by
        rw [← hN]
        simp [Nm.d]
      have hpl : N.pl.length ≤ 5 := by
        rw [← hN]
        show ((vs.filter fun v => decide (v.size = 0)).map VR.nm).length ≤ 5
        rw [List.length_map]
        exact Nat.le_trans (List.length_filter_le _ _) (by omega)
      have ok : N.Ok := by
        refine ⟨?_, by omega, ?_, ?_⟩
        · rw [← hN]
          obtain ⟨hi, ys, ts, rfl, _⟩ := hv
          simp
        · rw [← hN]
          show ((vs.filter fun v => decide (0 < v.size)).map VR.nm).length ≤ 10
          rw [List.length_map]
          exact Nat.le_trans (List.length_filter_le _ _) (by omega)
        · rw [← hN]
          show (chs.map fun _ => ("q" : Str)).length ≤ 10
          rw [List.length_map]
          omega
      simp only [List.set_cons_succ, List.set_cons_zero]
      rw [← hNd]
      -- processes
      refine b_asg ?_
      simp
      refine sp_take (k := k + 10) c1 (by decide) (by decide) fun z S2 z0 z1 d2 => ?_
      simp
      refine sp_process (k := k) ok hpl (d2.cell c1) fun p own body S3 hp w3 => ⟨sl1, t_nm ?_⟩
      have w13 := (w.dr d2).trans w3
      have hn3 : n < S3.length := by obtain ⟨o, e, _⟩ := w3.cell; exact lt_of_get e
      have w4 : Gw n S (S3 ++ [Ob.lst [p]]) := w13.trans (Ge.push.gw w3.cell)
      have h14 : (S3 ++ [Ob.lst [p]])[m]? = some (.lst (vs.map VR.d)) := get_push (w3.at ((d2.gw c1).at h1 hm) hm)
      have fin : ∀ {S5 : Sto} {ps : List D}, Gw n S S5 → S5[m]? = some (.lst (vs.map VR.d)) → S5[S3.length]? = some (.lst (p :: ps)) → (ps = [] ∨ ∃ r own body, ps = [r] ∧ Proc "r" 1 r own body) → wpB (envOf (g fuel) (k + 12)) (.cons (.ret (.yes (.tup (.cons (.cst (.str ("program" : Str))) (.cons (.bi .tuple (.cons (.loc 1) .nil)) (.cons (.loc 2) (.cons (.bi .tuple (.cons (.loc 5) .nil)) .nil))))))) .nil) [some (.hd n), some (.hd m), some (.tup chs), some (.lst ((vs.filter fun v => decide (v.size = 0)).map (D.str ∘ VR.nm))), some N.d, some (.hd S3.length), none] (fun f _ S' => match f with
            | .rt d => Q d S'
            | .nx => Q .non S'
            | _ => False) S5 := fun {S5 ps} w5 e1 e2 hps =>
        b_retP (.tup [.str ("program" : Str), .tup (vs.map VR.d), .tup chs, .tup (p :: ps)]) (by simp [pu, puEs, seq_hd e1, seq_hd e2, sl4]) (h _ vs chs (p :: ps) S5 ⟨rfl, hv, hch, p, _, own, body, ps, rfl, hp, by omega, by omega, hps⟩ w5)
      refine b_ifB ?_
      simp
      refine sp_take (k := k + 10) w4.cell (by decide) (by decide) fun y S5 y0 y1 d5 => ?_
      simp
      have w5 := w4.dr d5
      have g5 := d5.gw w4.cell
      have e5 : S5[S3.length]? = some (.lst [p]) := g5.at get_new (by omega)
      have m5 : S5[m]? = some (.lst (vs.map VR.d)) := g5.at h14 hm
      by_cases hy : (0 : Int) < y
      · refine .inr ⟨hy, b_ex ?_⟩
        simp
        refine ⟨⟨(), recv_hd e5⟩, ?_⟩
        refine sp_process (k := k) ok hpl w5.cell fun r own' body' S6 hr w6 => ?_
        have e6 := w6.at e5 (by omega)
        refine ⟨.non, _, app_hd e6 (big (by simp)), b_end ?_⟩
        exact fin ((w5.trans w6).setNew (by have := w13.len; omega) (by omega)) (get_set_ne (w6.at m5 hm) (by
          have := lt_of_get (w3.at ((d2.gw c1).at h1 hm) hm)
          omega)) (get_set e6) (.inr ⟨r, own', body', rfl, hr⟩)
      · exact .inl ⟨by omega, b_end (fin w5 m5 e5 (.inl rfl))⟩
  have hn : n < S.length := by obtain ⟨o, e, _⟩ := c; exact lt_of_get e
  -- behind the variables: channels
  have mid : ∀ {S1 : Sto} {m : Nat} {vs : List VR}, Gw n S S1 → m ≠ n → S1[m]? = some (.lst (vs.map VR.d)) → (∃ hi ys ts, vs = ⟨"x", 0, hi, 0⟩ :: (ys ++ ts) ∧ (ys = [] ∨ ∃ i, ys = [⟨"y", 0, 1, i⟩]) ∧ (ts = [] ∨ ts = [⟨"t", 2, 1, 0⟩])) →
      wpB (envOf (g fuel) (k + 12)) (match b_program with | .cons _ (.cons _ (.cons _ r)) => r | _ => .nil) [some (.hd n), some (.hd m), none, none, none, none, none] (fun f _ S' => match f with
    | .rt d => Q d S'
    | .nx => Q .non S'
    | _ => False) S1 := fun {S1 m vs} w hm h1 hv => by
    refine b_asg ?_
    simp [we_ite]
    refine sp_take (k := k + 10) w.cell (by decide) (by decide) fun y S2 y0 y1 d2 => ?_
    have h2 := (d2.gw w.cell).at h1 hm
    by_cases hy : y = 0
    · subst hy
      simp
      refine sp_take (k := k + 10) (d2.cell w.cell) (by decide) (by decide) fun z S3 z0 z1 d3 => ?_
      simp
      exact ⟨slen (by decide), sl1, t_nm (late ((w.dr d2).dr d3) hm ((d3.gw (d2.cell w.cell)).at h2 hm) hv (.inr ⟨1 + z, rfl⟩))⟩
    · simp [hy]
      exact t_nm (late (w.dr d2) hm h2 hv (.inl rfl))
  refine b_asg ?_
  simp
  refine sp_take (k := k + 10) c (by decide) (by decide) fun z S1 z0 z1 d1 => ?_
  simp
  refine ⟨slen (by decide), sl1, t_nm ?_⟩
  have w1 := d1.gw c
  have w2 : Gw n S (S1 ++ [Ob.lst [(⟨"x", 0, 1 + z, 0⟩ : VR).d]]) := w1.trans (Ge.push.gw w1.cell)
  have hl1 := w1.len
  have hm : S1.length ≠ n := by omega
  -- y
  refine b_ifB ?_
  simp
  refine sp_take (k := k + 10) w2.cell (by decide) (by decide) fun y S3 y0 y1 d3 => ?_
  simp
  have w3 := w2.dr d3
  have e3 : S3[S1.length]? = some (.lst [(⟨"x", 0, 1 + z, 0⟩ : VR).d]) := (d3.gw w2.cell).at get_new hm
  -- t
  have tee : ∀ {S4 : Sto} {ys : List VR}, Gw n S S4 → S4[S1.length]? = some (.lst (((⟨"x", 0, 1 + z, 0⟩ : VR) :: ys).map VR.d)) → (ys = [] ∨ ∃ i, ys = [⟨"y", 0, 1, i⟩]) → wpB (envOf (g fuel) (k + 12)) (match b_program with | .cons _ (.cons _ r) => r | _ => .nil) [some (.hd n), some (.hd S1.length), none, none, none, none, none] (fun f _ S' => match f with
    | .rt d => Q d S'
    | .nx => Q .non S'
    | _ => False) S4 := fun {S4 ys} w4 e4 hys => by
    have hyl : ys.length ≤ 1 := by rcases hys with rfl | ⟨i, rfl⟩ <;> simp
    refine b_ifB ?_
    simp
    refine sp_take (k := k + 10) w4.cell (by decide) (by decide) fun y S5 y0 y1 d5 => ?_
    simp
    have w5 := w4.dr d5
    have e5 := (d5.gw w4.cell).at e4 hm
    by_cases hy : y = 0
    · refine .inr ⟨hy, ?_⟩
      refine b_app (m := S1.length) (xs := ((⟨"x", 0, 1 + z, 0⟩ : VR) :: ys).map VR.d) (⟨"t", 2, 1, 0⟩ : VR).d rfl e5 (by simp [pu, puEs, slen, Var]) (big (by simp only [List.length_map, List.length_cons]; omega)) (b_end ?_)
      refine mid (vs := (⟨"x", 0, 1 + z, 0⟩ : VR) :: (ys ++ [⟨"t", 2, 1, 0⟩])) (w5.setNew (by omega) hm) hm ?_ ⟨1 + z, ys, _, rfl, hys, .inr rfl⟩
      have := get_set (o' := .lst (((⟨"x", 0, 1 + z, 0⟩ : VR) :: ys).map VR.d ++ [(⟨"t", 2, 1, 0⟩ : VR).d])) e5
      simpa using this
    · exact .inl ⟨hy, b_end (mid (vs := (⟨"x", 0, 1 + z, 0⟩ : VR) :: (ys ++ [])) w5 hm (by simpa using e5) ⟨1 + z, ys, [], rfl, hys, .inl rfl⟩)⟩
  by_cases hy : (0 : Int) < y
  · refine .inr ⟨hy, b_ex ?_⟩
    simp
    refine ⟨⟨(), recv_hd e3⟩, ?_⟩
    refine sp_take (k := k + 10) w3.cell (by decide) (by decide) fun i S4 i0 i1 d4 => ⟨slen (by decide), ?_⟩
    have e4 := (d4.gw w3.cell).at e3 hm
    refine ⟨.non, _, app_hd e4 (big (by simp)), b_end ?_⟩
    refine tee (ys := [⟨"y", 0, 1, i⟩]) ((w3.dr d4).setNew (by omega) hm) ?_ (.inr ⟨i, rfl⟩)
    exact get_set (o' := .lst ([(⟨"x", 0, 1 + z, 0⟩ : VR).d] ++ [(⟨"y", 0, 1, i⟩ : VR).d])) e4
  · exact .inl ⟨by omega, b_end (tee (ys := []) w3 (by simpa using e3) (.inl rfl))⟩
end K25
set_option Elab.async false
set_option linter.all false
set_option maxRecDepth 100000
set_option maxHeartbeats 1000000
namespace K25
open PySem Mp L2
theorem fn_deeper : (g fuel).fns f_deeper = ⟨6, 2, b_deeper⟩ := rfl
/-- a process whose body may be deeper -/
structure PrG (nm : Str) (cp : Int) (d : D) (own body : List D) : Prop where
  eq : d = .tup [.str ("process" : Str), .str nm, .int cp, .tup own, .tup body]
  own_ : own = [] ∨ ∃ i : Int, own = [Var "v" 0 1 i]
  len : body.length ≤ 4
  gs : ∀ y ∈ body, Gs 4 y ∧ Dat 24 y
theorem Proc.g {nm : Str} {cp : Int} {d : D} {own body : List D} (h : Proc nm cp d own body) : PrG nm cp d own body := ⟨h.eq, h.own_, h.len, fun y hy => ⟨(h.gs y hy).1.up.up, (h.gs y hy).2.up (by omega)⟩⟩
/-- the program that a law looks at -/
structure Pr4 (d : D) (vs : List VR) (chs : List D) (procs : List D) : Prop where
  eq : d = .tup [.str ("program" : Str), .tup (vs.map VR.d), .tup chs, .tup procs]
  vars : ∃ hi ys ts, vs = ⟨"x", 0, hi, 0⟩ :: (ys ++ ts) ∧ (ys = [] ∨ ∃ i, ys = [⟨"y", 0, 1, i⟩]) ∧ (ts = [] ∨ ts = [⟨"t", 2, 1, 0⟩])
  chans : chs = [] ∨ ∃ s, chs = [Chan s]
  proc : ∃ p cp own body ps, procs = p :: ps ∧ PrG "p" cp p own body ∧ 1 ≤ cp ∧ cp ≤ 2 ∧ (ps = [] ∨ ∃ r own body, ps = [r] ∧ PrG "r" 1 r own body)
/-- a level deeper -/
theorem deeper_body {n m : Nat} (hm1 : 1 ≤ m) {ys : List D} (hl : ys.length ≤ 4) (hy : ∀ y ∈ ys, Gs n y ∧ Dat m y) {b : D}
    (hb : b ∈ [D.tup [.str ("if" : Str), .tup [.tup [.tup [.str ("num" : Str), .int 1], .tup ys], .tup [.tup [.str ("num" : Str), .int 0], .tup []]], .non], .tup [.str ("choose" : Str), .tup [.tup ys, .tup [.tup [.str ("skip" : Str)]]]],
      .tup [.str ("if" : Str), .tup [.tup [.tup [.str ("num" : Str), .int 0], .tup []]], .tup ys], .tup [.str ("while" : Str), .tup [.str ("num" : Str), .int 1], .tup ys]]) : Gs (n + 1) b ∧ Dat (m + 4) b := by
  have gb : GB (Gs n) (.tup ys) := ⟨ys, rfl, hl, fun y hm => (hy y hm).1⟩
  have g0 : GB (Gs n) (.tup []) := ⟨[], rfl, by simp, fun y hm => by cases hm⟩
  have d1 : Dat (m + 1) (.tup ys) := dat_t (by omega) fun y hm => (hy y hm).2
  have d0 : ∀ {q : Nat}, Dat (q + 1) (.tup []) := dat_t (by simp) fun y hm => by cases hm
  have dn : ∀ {q : Nat} {i : Int}, Dat (q + 1) (.tup [.str ("num" : Str), .int i]) := dat2 dat_s dat_i
  simp only [List.mem_cons, List.not_mem_nil, or_false] at hb
  rcases hb with rfl | rfl | rfl | rfl
  · refine ⟨.inr (.inl ⟨_, _, rfl, by simp, by simp, fun c hc => ?_, .inl rfl⟩), dat3 (n := m + 3) dat_s (dat2 (n := m + 2) (dat2 (n := m + 1) dn d1) (dat2 (n := m + 1) dn d0)) dat_n⟩
    simp only [List.mem_cons, List.not_mem_nil, or_false] at hc
    rcases hc with rfl | rfl
    · exact ⟨_, _, rfl, gb⟩
    · exact ⟨_, _, rfl, g0⟩
  · refine ⟨.inr (.inr (.inl ⟨_, rfl, by simp, by simp, fun c hc => ?_⟩)), (dat2 (n := m + 2) dat_s (dat2 (n := m + 1) d1 (dat1 (n := m) ?_))).up (by omega)⟩
    · simp only [List.mem_cons, List.not_mem_nil, or_false] at hc
      rcases hc with rfl | rfl
      · exact gb
      · exact ⟨_, rfl, by simp, fun y hm => by rw [List.mem_singleton.mp hm]; exact .leaf (gleaf (by simp))⟩
    · cases m with
      | zero => omega
      | succ m => exact dat1 dat_s
  · refine ⟨.inr (.inl ⟨_, _, rfl, by simp, by simp, fun c hc => ?_, .inr gb⟩), dat3 (n := m + 3) dat_s (dat1 (n := m + 2) (dat2 (n := m + 1) dn d0)) (d1.up (by omega))⟩
    rw [List.mem_singleton.mp hc]
    exact ⟨_, _, rfl, g0⟩
  · exact ⟨.inr (.inr (.inr ⟨_, _, rfl, gb⟩)), (dat3 (n := m + 1) dat_s dn d1).up (by omega)⟩
theorem sp_deeper {n k : Nat} {S : Sto} {d : D} {vs : List VR} {chs procs : List D} {Q : D → Sto → Prop} (c : Cell S n) (hp : Prg d vs chs procs) (h : ∀ d' procs' S', Pr4 d' vs chs procs' → Dr n S S' → Q d' S') : wp (run (g fuel) (k + 4) f_deeper [.hd n, d]) Q S := by
  obtain ⟨rfl, hv, hch, p, cp, own, body, ps, rfl, hp1, c1, c2, hps⟩ := hp
  refine wp_run fn_deeper rfl ?_
  -- the last process
  obtain ⟨nm, cpl, ownl, bodyl, pl, hpl, hlast, hinit⟩ : ∃ nm cpl ownl bodyl pl, Proc nm cpl pl ownl bodyl ∧ atI (p :: ps) (-1) = some pl ∧ ∀ q body', PrG nm cpl q ownl body' → ∃ procs', cutL (p :: ps) none (some (-1)) ++ [q] = procs' ∧ Pr4 (.tup [.str ("program" : Str), .tup (vs.map VR.d), .tup chs, .tup procs']) vs chs procs' := by
    rcases hps with rfl | ⟨r, own', body', rfl, hr⟩
    · exact ⟨_, _, _, _, p, hp1, rfl, fun q b' hq => ⟨[q], rfl, rfl, hv, hch, q, cp, own, b', [], rfl, hq, c1, c2, .inl rfl⟩⟩
    · exact ⟨_, _, _, _, r, hr, rfl, fun q b' hq => ⟨[p, q], rfl, rfl, hv, hch, p, cp, own, body, [q], rfl, hp1.g, c1, c2, .inr ⟨q, own', b', rfl, hq⟩⟩⟩
  obtain ⟨rfl, ho, hl, hg⟩ := hpl
  show wpB (envOf (g fuel) (k + 3)) b_deeper [some (.hd n), some (.tup [.str ("program" : Str), .tup (vs.map VR.d), .tup chs, .tup (p :: ps)]), none, none, none, none] (fun f _ S' => match f with
    | .rt d => Q d S'
    | .nx => Q .non S'
    | _ => False) S
  refine b_set (.tup [.str ("process" : Str), .str nm, .int cpl, .tup ownl, .tup bodyl]) (by simp [pu, hlast]) ?_
  refine b_set (.tup bodyl) (by simp [pu]) ?_
  refine b_for ?_
  refine wi_rng1 ?_
  simp
  refine sp_take (k := k + 1) c (by decide) (by decide) fun z S1 z0 z1 d1 => ⟨z, rfl, ⟨by omega, by omega⟩, ?_⟩
  refine wp_for_rg (fun i σ S' => ∃ ys o4 o5, σ = [some (.hd n), some (.tup [.str ("program" : Str), .tup (vs.map VR.d), .tup chs, .tup (p :: ps)]), some (.tup [.str ("process" : Str), .str nm, .int cpl, .tup ownl, .tup bodyl]), some (.tup ys), o4, o5] ∧ Dr n S S' ∧ ys.length ≤ 4 ∧ ∀ y ∈ ys, Gs (2 + i) y ∧ Dat (16 + 4 * i) y)
    ⟨bodyl, _, _, rfl, d1, hl, hg⟩ ?_ ?_
  · rintro i σ S2 hi ⟨ys, o4, o5, rfl, d2, hl2, hg2⟩
    refine t_nm ?_
    show wpB (envOf (g fuel) (k + 3)) _ _ (fun f σ S => Turn1 (f, σ) S _ _) S2
    generalize hK : (fun f σ S => Turn1 (f, σ) S _ _ : K2) = K
    have nxt : ∀ (ys' : List D) (o4 o5 : Option D) (S' : Sto), Dr n S S' → ys'.length ≤ 4 → (∀ y ∈ ys', Gs (2 + (i + 1)) y ∧ Dat (16 + 4 * (i + 1)) y) → K .nx [some (.hd n), some (.tup [.str ("program" : Str), .tup (vs.map VR.d), .tup chs, .tup (p :: ps)]), some (.tup [.str ("process" : Str), .str nm, .int cpl, .tup ownl, .tup bodyl]), some (.tup ys'), o4, o5] S' := fun ys' o4 o5 S' a1 a2 a3 => by
      rw [← hK]
      exact ⟨ys', o4, o5, rfl, a1, a2, a3⟩
    clear hK
    refine b_asg ?_
    simp [slen]
    refine sp_pick (k := k) (d2.cell c) (.inl rfl) (by simp) (by simp) fun b S3 hb d3 => t_nm ?_
    have hb2 := deeper_body (by omega) hl2 hg2 hb
    refine b_asg ?_
    simp [we_ite]
    have c3 := d3.cell (d2.cell c)
    refine sp_take (k := k + 1) c3 (by decide) (by decide) fun y S4 y0 y1 d4 => ?_
    have d24 := d2.trans (d3.trans d4)
    have sk : Gs (2 + (i + 1)) (.tup [.str ("skip" : Str)]) ∧ Dat (16 + 4 * (i + 1)) (.tup [.str ("skip" : Str)]) := ⟨.leaf (gleaf (by simp)), (dat1 (n := 0) dat_s).up (by omega)⟩
    have stp : Gs (2 + (i + 1)) (.tup [.str ("stop" : Str)]) ∧ Dat (16 + 4 * (i + 1)) (.tup [.str ("stop" : Str)]) := ⟨.leaf (gleaf (by simp)), (dat1 (n := 0) dat_s).up (by omega)⟩
    by_cases hy : y = 0
    · subst hy
      simp
      refine ⟨sl1, sl2, t_nm (b_nil ?_)⟩
      refine nxt _ _ _ _ d24 (by simp) fun w hw => ?_
      simp only [List.mem_cons, List.not_mem_nil, or_false] at hw
      rcases hw with rfl | rfl
      · exact sk
      · exact hb2
    · simp [hy]
      refine ⟨sl1, sl2, t_nm (b_nil ?_)⟩
      refine nxt _ _ _ _ d24 (by simp) fun w hw => ?_
      simp only [List.mem_cons, List.not_mem_nil, or_false] at hw
      rcases hw with rfl | rfl
      · exact hb2
      · exact stp
  · rintro σ S2 ⟨ys, o4, o5, rfl, d2, hl2, hg2⟩
    have hz : z.toNat ≤ 2 := by omega
    obtain ⟨procs', e1, hP⟩ := hinit (.tup [.str ("process" : Str), .str nm, .int cpl, .tup ownl, .tup ys]) ys ⟨rfl, ho, hl2, fun y hm => by
      have q := hg2 y hm
      refine ⟨?_, q.2.up (by omega)⟩
      have up : ∀ a b, a ≤ b → Gs a y → Gs b y := fun a b hab hga => by
        induction hab with
        | refl => exact hga
        | step _ ih => exact ih.up
      exact up _ _ (by omega) q.1⟩
    refine then_nx (b_retP (.tup [.str ("program" : Str), .tup (vs.map VR.d), .tup chs, .tup procs']) ?_ (h _ procs' S2 hP d2))
    have hpl' : procs'.length ≤ 2 := by
      rw [← e1]
      rcases hps with rfl | ⟨r, own', body', rfl, hr⟩
      · show 1 ≤ 2
        decide
      · show 2 ≤ 2
        decide
    have s1 : slP S2 (.tup [.str ("program" : Str), .tup (vs.map VR.d), .tup chs, .tup (p :: ps)]) none (some 3) = some (.tup [.str ("program" : Str), .tup (vs.map VR.d), .tup chs]) := rfl
    have s2 : slP S2 (.tup (p :: ps)) none (some (-1)) = some (.tup (cutL (p :: ps) none (some (-1)))) := rfl
    have s3 : slP S2 (.tup [.str ("process" : Str), .str nm, .int cpl, .tup ownl, .tup bodyl]) none (some 4) = some (.tup [.str ("process" : Str), .str nm, .int cpl, .tup ownl]) := rfl
    have l1 : (cutL (p :: ps) none (some (-1))).length + 1 ≤ sizeLine := by
      have := congrArg List.length e1
      rw [List.length_append] at this
      refine slen ?_
      simp at this
      omega
    simp [pu, puEs, puO, s1, s2, s3, sl1, bin_addT, slen, l1, e1]
end K25
set_option Elab.async false
set_option linter.all false
set_option maxRecDepth 100000
set_option maxHeartbeats 1000000
namespace K25
open PySem Mp L2
theorem fn_all : (g fuel).fns f_all_statements = ⟨4, 1, b_all_statements⟩ := rfl
theorem Ge.refl (S : Sto) : Ge S S := ⟨Nat.le_refl _, fun _ _ e => e⟩
theorem Ge.setNew {S S1 : Sto} {m : Nat} {o : Ob} (w : Ge S S1) (hm : S.length ≤ m) : Ge S (S1.set m o) :=
  ⟨by simpa using w.1, fun i u e => get_set_ne (w.2 i u e) (by have := lt_of_get e; omega)⟩
theorem ext_hd {S : Sto} {m : Nat} {xs ys : List D} {x : D} (h : S[m]? = some (.lst xs)) (h2 : lstOf S x = some ys) (hz : xs.length + ys.length ≤ sizeLine) : bmP S .extend (.hd m) [x] = some (.non, S.set m (.lst (xs ++ ys))) := by
  simp only [bmP, h, h2, if_pos hz]
def AllOk (all : List D → List D) (P : D → Prop) (run1 : List D → M D) : Prop :=
  ∀ (ys : List D) (S : Sto) (Q : D → Sto → Prop), ys.length ≤ 4 → (∀ y ∈ ys, P y) → (∀ (h : Nat) S', S.length ≤ h → S'[h]? = some (.lst (all ys)) → Ge S S' → Q (.hd h) S') → wp (run1 [.tup ys]) Q S
theorem all_step {n k c : Nat} {all : List D → List D} (hrec : n ≠ 0 → AllOk all (Gs (n - 1)) (run (g fuel) (k + 1) f_all_statements)) (hall : ∀ ys, ys.length ≤ 4 → (∀ y ∈ ys, Gs (n - 1) y) → (all ys).length ≤ c) (hc : 4 * (1 + 3 * c) ≤ 100000) :
    AllOk (allL all) (Gs n) (run (g fuel) (k + 2) f_all_statements) := by
  intro ys S Q hy4 hyP hQ
  refine wp_run fn_all rfl ?_
  show wpB (envOf (g fuel) (k + 1)) b_all_statements [some (.tup ys), none, none, none] (fun f _ S' => match f with
    | .rt d => Q d S'
    | .nx => Q .non S'
    | _ => False) S
  have hle : ∀ y ∈ ys, (y :: (blkD y).flatMap fun b => all (itemsD b)).length ≤ 1 + 3 * c := fun y hm => by
    obtain ⟨b1, b2⟩ := (hyP y hm).blk
    rw [List.length_cons]
    have h2 := flat_le (xs := blkD y) (f := fun b => all (itemsD b)) (c := c) fun b hb => by
      obtain ⟨_, zs, rfl, hz, hz'⟩ := b2 b hb
      exact hall zs hz hz'
    have := Nat.mul_le_mul_right c b1
    omega
  refine b_new ?_
  refine b_for ?_
  refine wi_seqT (xs := ys) ?_
  simp
  refine wp_for_st (fun i σ S' => ∃ o2 o3, σ = [some (.tup ys), some (.hd S.length), o2, o3] ∧ Ge S S' ∧ S'[S.length]? = some (.lst (allL all (ys.take i)))) ⟨none, none, rfl, Ge.push, get_new⟩ ?_ ?_
  · rintro i y σ S1 hi ⟨o2, o3, rfl, ge, hf⟩
    have hilt := (List.getElem?_eq_some_iff.mp hi).1
    have hsum : (allL all (ys.take i)).length ≤ i * (1 + 3 * c) := by
      have h1 := flat_le (xs := ys.take i) (f := fun y => y :: (blkD y).flatMap fun b => all (itemsD b)) (c := 1 + 3 * c) fun y hm => hle y (List.mem_of_mem_take hm)
      refine Nat.le_trans h1 (Nat.mul_le_mul_right _ ?_)
      rw [List.length_take]; omega
    have hi3 : i * (1 + 3 * c) ≤ 3 * (1 + 3 * c) := Nat.mul_le_mul_right _ (by omega)
    have hyy := hyP y (List.mem_of_getElem? hi)
    have e2 : allL all (ys.take (i + 1)) = allL all (ys.take i) ++ (y :: (blkD y).flatMap fun b => all (itemsD b)) := by
      rw [take_snoc hi]
      show List.flatMap _ _ = _
      rw [List.flatMap_append]
      simp
    refine t_nm ?_
    show wpB (envOf (g fuel) (k + 1)) _ _ (fun f σ S => Turn1 (f, σ) S _ _) S1
    generalize hK : (fun f σ S => Turn1 (f, σ) S _ _ : K2) = K
    have nxt : ∀ (o3 : Option D) (S' : Sto), Ge S S' → S'[S.length]? = some (.lst (allL all (ys.take i) ++ (y :: (blkD y).flatMap fun b => all (itemsD b)))) → K .nx [some (.tup ys), some (.hd S.length), some y, o3] S' := fun o3 S' a1 a2 => by
      rw [← hK]
      exact ⟨some y, o3, rfl, a1, by rw [e2]; exact a2⟩
    clear hK
    refine b_app (m := S.length) y rfl hf rfl (big (by omega)) ?_
    refine b_for ?_
    refine wi_seqT (xs := blkD y) ?_
    simp
    refine sp_blocks hyy ?_
    simp
    refine wp_for_st (fun j σ S' => ∃ o3, σ = [some (.tup ys), some (.hd S.length), some y, o3] ∧ Ge S S' ∧ S'[S.length]? = some (.lst (allL all (ys.take i) ++ (y :: ((blkD y).take j).flatMap fun b => all (itemsD b)))))
      ⟨o3, rfl, ge.setNew (Nat.le_refl _), by simpa using get_set hf⟩ ?_ ?_
    · rintro j b σ S2 hj ⟨o3, rfl, ge2, hf2⟩
      obtain ⟨hn, zs, rfl, hz, hz'⟩ := hyy.blk.2 b (List.mem_of_getElem? hj)
      have hsum2 : (((blkD y).take j).flatMap fun b => all (itemsD b)).length ≤ 2 * c := by
        have h1 := flat_le (xs := (blkD y).take j) (f := fun b => all (itemsD b)) (c := c) fun b hb => by
          obtain ⟨_, zs, rfl, hz, hz'⟩ := hyy.blk.2 b (List.mem_of_mem_take hb)
          exact hall zs hz hz'
        refine Nat.le_trans h1 (Nat.mul_le_mul_right _ ?_)
        rw [List.length_take]
        have := hyy.blk.1
        have := (List.getElem?_eq_some_iff.mp hj).1
        omega
      have hzl := hall zs hz hz'
      refine t_nm ?_
      show wpB (envOf (g fuel) (k + 1)) _ _ (fun f σ S => Turn1 (f, σ) S _ _) S2
      generalize hK : (fun f σ S => Turn1 (f, σ) S _ _ : K2) = K'
      have nxt' : ∀ (o3 : Option D) (S' : Sto), Ge S S' → S'[S.length]? = some (.lst (allL all (ys.take i) ++ (y :: ((blkD y).take (j + 1)).flatMap fun b => all (itemsD b)))) → K' .nx [some (.tup ys), some (.hd S.length), some y, o3] S' := fun o3 S' a1 a2 => by
        rw [← hK]
        exact ⟨o3, rfl, a1, a2⟩
      clear hK
      refine b_ex ?_
      simp
      refine ⟨⟨(), recv_hd hf2⟩, ?_⟩
      refine hrec hn zs S2 _ hz hz' fun h2 S3 hh2 e3 g3 => ?_
      have f3 := g3.2 _ _ hf2
      refine ⟨.non, _, ext_hd f3 (lst_hd e3) (Nat.le_of_lt (big ?_)), b_nil ?_⟩
      · simp only [List.length_append, List.length_cons]
        omega
      · refine nxt' _ _ ((ge2.trans g3).setNew (Nat.le_refl _)) ?_
        have e5 : ((blkD y).take (j + 1)).flatMap (fun b => all (itemsD b)) = ((blkD y).take j).flatMap (fun b => all (itemsD b)) ++ all zs := by
          rw [take_snoc hj, List.flatMap_append]
          simp [itemsD]
        rw [e5]
        have := get_set (o' := .lst (allL all (ys.take i) ++ (y :: ((blkD y).take j).flatMap fun b => all (itemsD b)) ++ all zs)) f3
        simpa using this
    · rintro σ S2 ⟨o3, rfl, ge2, hf2⟩
      rw [List.take_length] at hf2
      exact b_nil (nxt _ _ ge2 hf2)
  · rintro σ S1 ⟨o2, o3, rfl, ge, hf⟩
    rw [List.take_length] at hf
    exact then_nx (b_retP (.hd S.length) (by simp [pu]) (hQ S.length S1 (Nat.le_refl _) hf ge))
theorem all_flat {ys : List D} : allL (fun _ => []) ys = ys := by
  induction ys with
  | nil => rfl
  | cons y r ih =>
    have e1 : (blkD y).flatMap (fun _ : D => ([] : List D)) = [] := by simp
    have ih' : List.flatMap (fun y => y :: (blkD y).flatMap fun _ => ([] : List D)) r = r := ih
    show List.flatMap _ _ = _
    rw [List.flatMap_cons, ih', e1]
    rfl
theorem cnt_mono : ∀ n, cnt n ≤ cnt (n + 1)
  | 0 => by decide
  | n + 1 => by
    have := cnt_mono n
    show 4 * (1 + 3 * cnt n) ≤ 4 * (1 + 3 * cnt (n + 1))
    omega
theorem cnt_mon {a b : Nat} (h : a ≤ b) : cnt a ≤ cnt b := by
  induction h with
  | refl => exact Nat.le_refl _
  | step _ ih => exact Nat.le_trans ih (cnt_mono _)
/-- all_statements -/
theorem sp_all : ∀ (n k : Nat), n ≤ 4 → AllOk (allS n) (Gs n) (run (g fuel) (k + n + 2) f_all_statements)
  | 0, k, _ => by
    have h := all_step (fuel := fuel) (n := 0) (k := k) (c := 0) (all := fun _ => []) (fun h => absurd rfl h) (fun ys _ _ => Nat.zero_le _) (by omega)
    intro ys S Q a b hQ
    refine h ys S Q a b ?_
    rw [all_flat]
    exact hQ
  | n + 1, k, hn => by
    have hc : 4 * (1 + 3 * cnt n) ≤ 100000 := by
      have h1 : cnt (n + 1) ≤ cnt 4 := cnt_mon hn
      have h2 : cnt 4 ≤ 100000 := by decide
      exact Nat.le_trans h1 h2
    have h := all_step (fuel := fuel) (n := n + 1) (k := k + n + 1) (fun _ => sp_all n k (by omega)) (fun ys a b => allS_len a b) hc
    exact h
end K25
set_option Elab.async false
set_option linter.all false
set_option maxRecDepth 100000
set_option maxHeartbeats 1000000
namespace K25
open PySem Mp L2
theorem fn_alike : (g fuel).fns f_alike = ⟨3, 2, b_alike⟩ := rfl
theorem bls_true : ∀ n, blsOf (List.replicate n (.bl true)) = some (List.replicate n true)
  | 0 => rfl
  | n + 1 => by
    rw [List.replicate_succ]
    show (blsOf (List.replicate n (.bl true))).map (true :: ·) = _
    rw [bls_true n]
    rfl
theorem all_true : ∀ n, (List.replicate n true).all id = true
  | 0 => rfl
  | n + 1 => by rw [List.replicate_succ, List.all_cons, all_true n]; rfl
/-- two equal values of data are alike -/
theorem sp_alike : ∀ (n k : Nat) (d : D) (S : Sto) (Q : D → Sto → Prop), Dat n d → Q (.bl true) S → wp (run (g fuel) (k + n + 1) f_alike [d, d]) Q S := by
  intro n
  induction n with
  | zero =>
    intro k d S Q hd hQ
    refine wp_run fn_alike rfl ?_
    show wpB (envOf (g fuel) k) b_alike [some d, some d, none] (fun f _ S' => match f with
      | .rt d => Q d S'
      | .nx => Q .non S'
      | _ => False) S
    cases d with
    | non => exact b_ifF (.bl false) rfl rfl (b_end (b_ifT (.bl true) rfl rfl (b_retP (.bl true) rfl hQ)))
    | bl b => exact b_ifF (.bl false) rfl rfl (b_end (b_ifF (.bl false) rfl rfl (b_end (b_ifT (.bl true) rfl rfl (b_retP (.bl true) (by simp [pu, isis, isTyP]) hQ)))))
    | int i => exact b_ifF (.bl false) rfl rfl (b_end (b_ifF (.bl false) rfl rfl (b_end (b_ifF (.bl false) rfl rfl (b_end (b_ifF (.bl false) rfl rfl (b_end (b_retP (.bl true) (by simp [pu, isis, isTyP]) hQ))))))))
    | str i => exact b_ifF (.bl false) rfl rfl (b_end (b_ifF (.bl false) rfl rfl (b_end (b_ifF (.bl false) rfl rfl (b_end (b_ifF (.bl false) rfl rfl (b_end (b_retP (.bl true) (by simp [pu, isis, isTyP]) hQ))))))))
    | _ => exact hd.elim
  | succ n ih =>
    intro k d S Q hd hQ
    refine wp_run fn_alike rfl ?_
    show wpB (envOf (g fuel) (k + n + 1)) b_alike [some d, some d, none] (fun f _ S' => match f with
      | .rt d => Q d S'
      | .nx => Q .non S'
      | _ => False) S
    cases d with
    | non => exact b_ifF (.bl false) rfl rfl (b_end (b_ifT (.bl true) rfl rfl (b_retP (.bl true) rfl hQ)))
    | bl b => exact b_ifF (.bl false) rfl rfl (b_end (b_ifF (.bl false) rfl rfl (b_end (b_ifT (.bl true) rfl rfl (b_retP (.bl true) (by simp [pu, isis, isTyP]) hQ)))))
    | int i => exact b_ifF (.bl false) rfl rfl (b_end (b_ifF (.bl false) rfl rfl (b_end (b_ifF (.bl false) rfl rfl (b_end (b_ifF (.bl false) rfl rfl (b_end (b_retP (.bl true) (by simp [pu, isis, isTyP]) hQ))))))))
    | str i => exact b_ifF (.bl false) rfl rfl (b_end (b_ifF (.bl false) rfl rfl (b_end (b_ifF (.bl false) rfl rfl (b_end (b_ifF (.bl false) rfl rfl (b_end (b_retP (.bl true) (by simp [pu, isis, isTyP]) hQ))))))))
    | tup xs =>
      obtain ⟨hl, hx⟩ := hd
      refine b_ifT (.bl true) rfl rfl (b_ret ?_)
      rw [we_and]
      simp [isis, isTyP]
      rw [we_and]
      simp
      refine wi_rng1 ?_
      simp
      refine ⟨by omega, ?_⟩
      refine wp_comp_rg (fun i acc S' => acc = List.replicate i (.bl true) ∧ S' = S) ⟨rfl, rfl⟩ ?_ ?_
      · rintro i acc S' hi ⟨rfl, rfl⟩
        refine t_nm ?_
        have e := L2.atI_nat (xs := xs) (List.getElem?_eq_getElem hi)
        simp [wipeD, e]
        refine ih k _ _ _ (hx _ (List.getElem_mem hi)) ?_
        simp [List.replicate_succ']
      · rintro acc S' ⟨rfl, rfl⟩
        refine ⟨by simp; exact Nat.le_of_lt (big (by omega)), ?_⟩
        simp [biP, lstOf, bls_true, all_true]
        exact hQ
    | _ => exact hd.elim
end K25
set_option Elab.async false
set_option linter.all false
set_option maxRecDepth 100000
set_option maxHeartbeats 1000000
namespace K25
open PySem Mp L2
/-- a dict whose keys count from k on -/
def dkF : Nat → List D → List (Key × D)
  | _, [] => []
  | k, v :: r => (.inl (k : Nat), v) :: dkF (k + 1) r
theorem dkF_len : ∀ {k : Nat} {vs : List D}, (dkF k vs).length = vs.length
  | _, [] => rfl
  | k, v :: r => by simp [dkF, dkF_len (k := k + 1) (vs := r)]
theorem dkF_no {j : Nat} : ∀ {k : Nat} {vs : List D}, (j < k ∨ k + vs.length ≤ j) → ((dkF k vs).any fun kv => decide (kv.1 = (.inl (j : Nat) : Key))) = false
  | _, [], _ => rfl
  | k, v :: r, h => by
    rw [dkF, List.any_cons, dkF_no (by rw [List.length_cons] at h; omega)]
    have : ¬((Sum.inl ((k : Nat) : Int) : Key) = Sum.inl ((j : Nat) : Int)) := fun z => by
      have := Sum.inl.inj z
      rw [List.length_cons] at h
      omega
    simp [this]
theorem dkF_app : ∀ {k : Nat} {vs ws : List D}, dkF k (vs ++ ws) = dkF k vs ++ dkF (k + vs.length) ws
  | k, [], ws => rfl
  | k, v :: r, ws => by
    have e : k + 1 + r.length = k + (r.length + 1) := by omega
    simp [dkF, dkF_app (k := k + 1) (vs := r), e]
theorem put_new {k j : Nat} {vs : List D} {v : D} (h : j = k + vs.length) : putD (dkF k vs) (.inl (j : Nat)) v = dkF k (vs ++ [v]) := by
  subst h
  rw [putD, if_neg (by rw [dkF_no (.inr (Nat.le_refl _))]; exact Bool.false_ne_true), dkF_app]
  rfl
theorem dkF_map {j : Nat} {v : D} : ∀ {k : Nat} {vs : List D}, (j < k ∨ k + vs.length ≤ j) → (dkF k vs).map (fun kv => if kv.1 = (.inl (j : Nat) : Key) then (kv.1, v) else kv) = dkF k vs
  | _, [], _ => rfl
  | k, u :: r, h => by
    rw [dkF, List.map_cons, dkF_map (by rw [List.length_cons] at h; omega)]
    have : ¬((Sum.inl ((k : Nat) : Int) : Key) = Sum.inl ((j : Nat) : Int)) := fun z => by
      have := Sum.inl.inj z
      rw [List.length_cons] at h
      omega
    rw [if_neg this]
theorem put_old {k j : Nat} {a b : List D} {u v : D} (h : j = k + a.length) : putD (dkF k (a ++ u :: b)) (.inl (j : Nat)) v = dkF k (a ++ v :: b) := by
  subst h
  have e1 : ((dkF k (a ++ u :: b)).any fun kv => decide (kv.1 = (.inl ((k + a.length : Nat) : Int) : Key))) = true := by
    rw [dkF_app, dkF, List.any_append, List.any_cons]
    simp
  rw [putD, if_pos e1, dkF_app, dkF_app, List.map_append, dkF_map (.inr (Nat.le_refl _)), dkF, List.map_cons, dkF_map (.inl (by omega)), if_pos rfl]
  rfl
theorem val_dkF {k j : Nat} {a b : List D} {u : D} (h : j = k + a.length) : valD (dkF k (a ++ u :: b)) (.inl (j : Nat)) = some u := by
  subst h
  have : ∀ {k : Nat} {a : List D}, valD (dkF k (a ++ u :: b)) (.inl ((k + a.length : Nat) : Int)) = some u := fun {k a} => by
    induction a generalizing k with
    | nil => simp [dkF, valD]
    | cons x r ih =>
      have e : k + (x :: r).length = k + 1 + r.length := by rw [List.length_cons]; omega
      have := ih (k := k + 1)
      rw [e]
      have hne : ¬((Sum.inl ((k : Nat) : Int) : Key) = Sum.inl ((k + 1 + r.length : Nat) : Int)) := fun z => by
        have := Sum.inl.inj z
        omega
      show (List.find? (fun kv => decide (kv.1 = (Sum.inl ((k + 1 + r.length : Nat) : Int) : Key))) ((.inl ((k : Nat) : Int), x) :: dkF (k + 1) (r ++ u :: b))).map (·.2) = some u
      rw [List.find?_cons_of_neg (by rw [decide_eq_true_eq]; exact hne)]
      exact this
  exact this
/-! ### how many numbers -/
/-- what the numbers of a block count -/
def Cnt (rec : List D → Int → Nu) (all : List D → List D) (P : D → Prop) : Prop := ∀ (ys : List D) (a : Int), (∀ y ∈ ys, P y) → (rec ys a).2.2.length = (all ys).length ∧ (rec ys a).2.1 = a + ((all ys).length : Nat)
theorem cntB {rec : List D → Int → Nu} {all : List D → List D} {P : D → Prop} (h : Cnt rec all P) : ∀ (bs : List D) (a : Int), (∀ b ∈ bs, GB P b) → (numB rec bs a).2.2.length = (bs.flatMap fun b => all (itemsD b)).length ∧ (numB rec bs a).2.1 = a + ((bs.flatMap fun b => all (itemsD b)).length : Nat)
  | [], a, _ => by simp [numB]
  | b :: r, a, hb => by
    obtain ⟨zs, rfl, hz, hz'⟩ := hb b List.mem_cons_self
    obtain ⟨h1, h2⟩ := h zs a hz'
    obtain ⟨h3, h4⟩ := cntB h r (rec zs a).2.1 fun b hm => hb b (List.mem_cons_of_mem _ hm)
    rw [List.flatMap_cons, List.length_append]
    have e : itemsD (.tup zs) = zs := rfl
    simp only [numB, e, List.length_append]
    rw [h3, h4, h1, h2]
    refine ⟨rfl, ?_⟩
    omega
theorem cntL {n : Nat} {rec : List D → Int → Nu} {all : List D → List D} (h : n ≠ 0 → Cnt rec all (Gs (n - 1))) : Cnt (numL rec) (allL all) (Gs n) := by
  intro ys
  induction ys with
  | nil => intro a _; simp [numL, allL]
  | cons y r ih =>
    intro a hy
    have hb := (hy y List.mem_cons_self).blk.2
    have hB : (numB rec (blkD y) (a + 1)).2.2.length = ((blkD y).flatMap fun b => all (itemsD b)).length ∧ (numB rec (blkD y) (a + 1)).2.1 = a + 1 + (((blkD y).flatMap fun b => all (itemsD b)).length : Nat) := by
      by_cases e : blkD y = []
      · rw [e]; simp [numB]
      · have hn : n ≠ 0 := by
          obtain ⟨b, r', e'⟩ := List.exists_cons_of_ne_nil e
          exact (hb b (by rw [e']; exact List.mem_cons_self)).1
        exact cntB (h hn) (blkD y) (a + 1) fun b hm => (hb b hm).2
    obtain ⟨h3, h4⟩ := ih (numB rec (blkD y) (a + 1)).2.1 fun z hz => hy z (List.mem_cons_of_mem _ hz)
    have e : allL all (y :: r) = (y :: (blkD y).flatMap fun b => all (itemsD b)) ++ allL all r := List.flatMap_cons
    rw [e]
    simp only [numL, List.length_append, List.length_cons]
    rw [h3, h4, hB.1, hB.2]
    refine ⟨by omega, by omega⟩
theorem cnt_num : ∀ n, Cnt (num n) (allS n) (Gs n)
  | 0 => by
    have h := cntL (n := 0) (rec := fun _ at_ => ([], at_, [])) (all := fun _ => []) fun z => absurd rfl z
    intro ys a hy
    have := h ys a hy
    rw [all_flat] at this
    exact this
  | n + 1 => cntL (n := n + 1) fun _ => cnt_num n
end K25
set_option Elab.async false
set_option linter.all false
set_option maxRecDepth 100000
set_option maxHeartbeats 1000000
namespace K25
open PySem Mp L2
theorem fn_place : (g fuel).fns f_place_block = ⟨8, 3, b_place_block⟩ := rfl
/-- all objects but one stand still, new ones may come -/
structure Gd (n : Nat) (S S' : Sto) : Prop where
  len : S.length ≤ S'.length
  keep : ∀ i o, i ≠ n → S[i]? = some o → S'[i]? = some o
theorem Gd.trans {n : Nat} {S S1 S2 : Sto} (a : Gd n S S1) (b : Gd n S1 S2) : Gd n S S2 := ⟨Nat.le_trans a.len b.len, fun i o hi e => b.keep i o hi (a.keep i o hi e)⟩
theorem Gd.push {n : Nat} {S : Sto} {o : Ob} : Gd n S (S ++ [o]) := ⟨by simp, fun i u _ e => get_push e⟩
theorem Gd.set {n : Nat} {S S1 : Sto} {o : Ob} (a : Gd n S S1) : Gd n S (S1.set n o) := ⟨by simpa using a.len, fun i u hi e => get_set_ne (a.keep i u hi e) (Ne.symm hi)⟩
theorem Gd.setNew {n m : Nat} {S S1 : Sto} {o : Ob} (a : Gd n S S1) (hm : S.length ≤ m) : Gd n S (S1.set m o) := ⟨by simpa using a.len, fun i u hi e => get_set_ne (a.keep i u hi e) (by have := lt_of_get e; omega)⟩
theorem b_aug {P : En} {σ : Sl} {S : Sto} {r : Ss} {K : K2} {i : Nat} {o : Op2} {e : E} (x y z : D) (h : σ[i]? = some (some x)) (he : pu e σ S = some y) (hz : augP S o x y = some z) (q : wpB P r (σ.set i (some z)) K S) : wpB P (.cons (.aug i o e) r) σ K S := by
  refine b_cons ?_
  show wp (evS P (.aug i o e) σ) _ S
  simp only [evS, h, wp_bind]
  refine wp_pu he ?_
  simp only [wp_rd, wp_pure]
  exact ⟨z, hz, then_nx q⟩
theorem set_dk {S : Sto} {n : Nat} {kvs : List (Key × D)} {i v : D} {k : Key} (h : S[n]? = some (.dk kvs)) (hk : keyOf i = some k) (hz : kvs.length < sizeLine) : setP S (.hd n) i v = some (S.set n (.dk (putD kvs k v))) := by
  simp only [setP, h, hk, if_pos hz]
theorem ix_dk {S : Sto} {n : Nat} {kvs : List (Key × D)} {i : Int} : S[n]? = some (.dk kvs) → ixP S (.hd n) (.int i) = valD kvs (.inl i) := fun h => by simp only [ixP, h, keyOf]
abbrev tups (rows : List (List D)) : List D := rows.map D.tup
def PlOk (rec : List D → Int → Nu) (P : D → Prop) (c : Nat) (run1 : List D → M D) : Prop :=
  ∀ (ys : List D) (S : Sto) (Q : D → Sto → Prop) (vs : List D) (hb : Nat) (at_ : Int), ys.length ≤ 4 → (∀ y ∈ ys, P y) → S[hb]? = some (.dk (dkF 1 vs)) → vs.length + c ≤ 100000 → at_ = ((vs.length + 1 : Nat) : Int) →
    (∀ S', Gd hb S S' → S'[hb]? = some (.dk (dkF 1 (vs ++ tups (rec ys at_).2.2))) → Q (.tup [.tup (rec ys at_).1, .int (rec ys at_).2.1]) S') → wp (run1 [.tup ys, .int at_, .hd hb]) Q S
theorem place_step {n k c : Nat} {rec : List D → Int → Nu} {all : List D → List D} (hrec : n ≠ 0 → PlOk rec (Gs (n - 1)) c (run (g fuel) (k + 1) f_place_block)) (hcn : n ≠ 0 → Cnt rec all (Gs (n - 1))) (hall : ∀ ys, ys.length ≤ 4 → (∀ y ∈ ys, Gs (n - 1) y) → (all ys).length ≤ c) :
    PlOk (numL rec) (Gs n) (4 * (1 + 3 * c)) (run (g fuel) (k + 2) f_place_block) := by
  intro ys S Q vs hb at_ hy4 hyP hd hv hat hQ
  have hcL := cntL (n := n) (rec := rec) (all := all) hcn
  refine wp_run fn_place rfl ?_
  show wpB (envOf (g fuel) (k + 1)) b_place_block [some (.tup ys), some (.int at_), some (.hd hb), none, none, none, none, none] (fun f _ S' => match f with
    | .rt d => Q d S'
    | .nx => Q .non S'
    | _ => False) S
  have hle : ∀ y ∈ ys, (y :: (blkD y).flatMap fun b => all (itemsD b)).length ≤ 1 + 3 * c := fun y hm => by
    obtain ⟨b1, b2⟩ := (hyP y hm).blk
    rw [List.length_cons]
    have h2 := flat_le (xs := blkD y) (f := fun b => all (itemsD b)) (c := c) fun b hb => by
      obtain ⟨_, zs, rfl, hz, hz'⟩ := b2 b hb
      exact hall zs hz hz'
    have := Nat.mul_le_mul_right c b1
    omega
  have hbl := lt_of_get hd
  refine b_new ?_
  refine b_for ?_
  refine wi_seqT (xs := ys) ?_
  simp
  refine wp_for_st (fun i σ S' => ∃ o4 o5 o6 o7, σ = [some (.tup ys), some (.int (numL rec (ys.take i) at_).2.1), some (.hd hb), some (.hd S.length), o4, o5, o6, o7] ∧ Gd hb S S' ∧
      S'[S.length]? = some (.lst (numL rec (ys.take i) at_).1) ∧ S'[hb]? = some (.dk (dkF 1 (vs ++ tups (numL rec (ys.take i) at_).2.2))))
    ⟨none, none, none, none, rfl, Gd.push, get_new, by simpa [numL] using get_push hd⟩ ?_ ?_
  · rintro i y σ S1 hi ⟨o4, o5, o6, o7, rfl, ge, hf, hk⟩
    have hilt := (List.getElem?_eq_some_iff.mp hi).1
    have hsum : (allL all (ys.take i)).length ≤ i * (1 + 3 * c) := by
      have h1 := flat_le (xs := ys.take i) (f := fun y => y :: (blkD y).flatMap fun b => all (itemsD b)) (c := 1 + 3 * c) fun y hm => hle y (List.mem_of_mem_take hm)
      refine Nat.le_trans h1 (Nat.mul_le_mul_right _ ?_)
      rw [List.length_take]; omega
    have hi3 : i * (1 + 3 * c) ≤ 3 * (1 + 3 * c) := Nat.mul_le_mul_right _ (by omega)
    obtain ⟨q1, q2⟩ := hcL (ys.take i) at_ fun z hz => hyP z (List.mem_of_mem_take hz)
    have q3 : (numL rec (ys.take i) at_).1.length ≤ 3 := by rw [numL_at, List.length_take]; omega
    have hyy := hyP y (List.mem_of_getElem? hi)
    have e1 : numL rec (ys.take (i + 1)) at_ = ((numL rec (ys.take i) at_).1 ++ [.int (numL rec (ys.take i) at_).2.1], (numB rec (blkD y) ((numL rec (ys.take i) at_).2.1 + 1)).2.1, (numL rec (ys.take i) at_).2.2 ++ ((numB rec (blkD y) ((numL rec (ys.take i) at_).2.1 + 1)).1 :: (numB rec (blkD y) ((numL rec (ys.take i) at_).2.1 + 1)).2.2)) := by
      rw [take_snoc hi, numL_snoc]
    refine t_nm ?_
    show wpB (envOf (g fuel) (k + 1)) _ _ (fun f σ S => Turn1 (f, σ) S _ _) S1
    generalize hK : (fun f σ S => Turn1 (f, σ) S _ _ : K2) = K
    have nxt : ∀ (o5 o6 o7 : Option D) (S' : Sto), Gd hb S S' → S'[S.length]? = some (.lst ((numL rec (ys.take i) at_).1 ++ [.int (numL rec (ys.take i) at_).2.1])) →
        S'[hb]? = some (.dk (dkF 1 (vs ++ tups ((numL rec (ys.take i) at_).2.2 ++ ((numB rec (blkD y) ((numL rec (ys.take i) at_).2.1 + 1)).1 :: (numB rec (blkD y) ((numL rec (ys.take i) at_).2.1 + 1)).2.2))))) →
        K .nx [some (.tup ys), some (.int (numB rec (blkD y) ((numL rec (ys.take i) at_).2.1 + 1)).2.1), some (.hd hb), some (.hd S.length), some y, o5, o6, o7] S' := fun o5 o6 o7 S' a1 a2 a3 => by
      rw [← hK]
      refine ⟨some y, o5, o6, o7, by rw [e1], a1, by rw [e1]; exact a2, by rw [e1]; exact a3⟩
    clear hK
    -- the number of this statement
    generalize hfn : (numL rec (ys.take i) at_).1 = fnd at *
    generalize hrw : (numL rec (ys.take i) at_).2.2 = rows at *
    have hown : (numL rec (ys.take i) at_).2.1 = ((1 + (vs ++ tups rows).length : Nat) : Int) := by
      rw [q2, hat, List.length_append, List.length_map, q1]
      omega
    generalize how : (numL rec (ys.take i) at_).2.1 = own at *
    have hlen : (vs ++ tups rows).length ≤ vs.length + 3 * (1 + 3 * c) := by
      rw [List.length_append, List.length_map, q1]; omega
    generalize hws : vs ++ tups rows = ws at *
    have nxt2 : ∀ (o5 o6 o7 : Option D) (S' : Sto), Gd hb S S' → S'[S.length]? = some (.lst (fnd ++ [.int own])) → S'[hb]? = some (.dk (dkF 1 (ws ++ .tup (numB rec (blkD y) (own + 1)).1 :: tups (numB rec (blkD y) (own + 1)).2.2))) →
        K .nx [some (.tup ys), some (.int (numB rec (blkD y) (own + 1)).2.1), some (.hd hb), some (.hd S.length), some y, o5, o6, o7] S' := fun o5 o6 o7 S' a1 a2 a3 => by
      refine nxt o5 o6 o7 S' a1 a2 ?_
      rw [a3, ← hws]
      simp
    clear nxt
    have hne : hb ≠ S.length := by omega
    refine b_set (.int own) rfl ?_
    refine b_app (m := S.length) (.int own) rfl hf rfl (big (by omega)) ?_
    have k1 := get_set_ne (o := .lst (fnd ++ [.int own])) hk (Ne.symm hne)
    have f1 := get_set (o' := .lst (fnd ++ [.int own])) hf
    have g1 : Gd hb S (S1.set S.length (.lst (fnd ++ [.int own]))) := ge.setNew (Nat.le_refl _)
    generalize hS2 : S1.set S.length (.lst (fnd ++ [.int own])) = S2 at k1 f1 g1
    have p1 : putD (dkF 1 ws) (.inl own) (.tup []) = dkF 1 (ws ++ [.tup []]) := by rw [hown]; exact put_new rfl
    refine b_sub (.tup []) (.hd hb) (.int own) (S2.set hb (.dk (dkF 1 (ws ++ [.tup []])))) rfl rfl rfl (by rw [set_dk k1 rfl (by rw [dkF_len]; exact big (by omega)), p1]) ?_
    have k2 := get_set (o' := .dk (dkF 1 (ws ++ [.tup []]))) k1
    have f2 := get_set_ne (o := .dk (dkF 1 (ws ++ [.tup []]))) f1 hne
    have g2 := g1.set (o := .dk (dkF 1 (ws ++ [.tup []])))
    generalize hS3 : S2.set hb (.dk (dkF 1 (ws ++ [.tup []]))) = S3 at k2 f2 g2
    refine b_aug (.int own) (.int 1) (.int (own + 1)) rfl rfl rfl ?_
    refine b_for ?_
    refine wi_seqT (xs := blkD y) ?_
    simp
    refine sp_blocks hyy ?_
    simp
    refine wp_for_st (fun j σ S' => ∃ o6 o7, σ = [some (.tup ys), some (.int (numB rec ((blkD y).take j) (own + 1)).2.1), some (.hd hb), some (.hd S.length), some y, some (.int own), o6, o7] ∧ Gd hb S S' ∧
        S'[S.length]? = some (.lst (fnd ++ [.int own])) ∧ S'[hb]? = some (.dk (dkF 1 (ws ++ .tup (numB rec ((blkD y).take j) (own + 1)).1 :: tups (numB rec ((blkD y).take j) (own + 1)).2.2))))
      ⟨o6, o7, rfl, g2, f2, by simpa [numB] using k2⟩ ?_ ?_
    · rintro j b σ S4 hj ⟨o6, o7, rfl, g4, f4, k4⟩
      obtain ⟨hn, zs, rfl, hz, hz'⟩ := hyy.blk.2 b (List.mem_of_getElem? hj)
      have hjl := (List.getElem?_eq_some_iff.mp hj).1
      have hb3 := hyy.blk.1
      have hsum2 : (((blkD y).take j).flatMap fun b => all (itemsD b)).length ≤ 2 * c := by
        have h1 := flat_le (xs := (blkD y).take j) (f := fun b => all (itemsD b)) (c := c) fun b hb => by
          obtain ⟨_, zs, rfl, hz, hz'⟩ := hyy.blk.2 b (List.mem_of_mem_take hb)
          exact hall zs hz hz'
        refine Nat.le_trans h1 (Nat.mul_le_mul_right _ ?_)
        rw [List.length_take]
        omega
      obtain ⟨r1, r2⟩ := cntB (hcn hn) ((blkD y).take j) (own + 1) fun b hm => (hyy.blk.2 b (List.mem_of_mem_take hm)).2
      have rowl : ∀ (l : List D) (a : Int), (numB rec l a).1.length = l.length := fun l => by
        induction l with
        | nil => intro a; rfl
        | cons b l ih => intro a; simp [numB, ih]
      have r3 : (numB rec ((blkD y).take j) (own + 1)).1.length ≤ 3 := by rw [rowl, List.length_take]; omega
      have e5 : numB rec ((blkD y).take (j + 1)) (own + 1) = ((numB rec ((blkD y).take j) (own + 1)).1 ++ [.tup (rec zs (numB rec ((blkD y).take j) (own + 1)).2.1).1], (rec zs (numB rec ((blkD y).take j) (own + 1)).2.1).2.1, (numB rec ((blkD y).take j) (own + 1)).2.2 ++ (rec zs (numB rec ((blkD y).take j) (own + 1)).2.1).2.2) := by
        rw [take_snoc hj, numB_snoc]
        rfl
      refine t_nm ?_
      show wpB (envOf (g fuel) (k + 1)) _ _ (fun f σ S => Turn1 (f, σ) S _ _) S4
      generalize hK : (fun f σ S => Turn1 (f, σ) S _ _ : K2) = K'
      have nxt' : ∀ (o6 o7 : Option D) (S' : Sto), Gd hb S S' → S'[S.length]? = some (.lst (fnd ++ [.int own])) → S'[hb]? = some (.dk (dkF 1 (ws ++ .tup ((numB rec ((blkD y).take j) (own + 1)).1 ++ [.tup (rec zs (numB rec ((blkD y).take j) (own + 1)).2.1).1]) :: tups ((numB rec ((blkD y).take j) (own + 1)).2.2 ++ (rec zs (numB rec ((blkD y).take j) (own + 1)).2.1).2.2)))) →
          K' .nx [some (.tup ys), some (.int (rec zs (numB rec ((blkD y).take j) (own + 1)).2.1).2.1), some (.hd hb), some (.hd S.length), some y, some (.int own), o6, o7] S' := fun o6 o7 S' a1 a2 a3 => by
        rw [← hK]
        exact ⟨o6, o7, by rw [e5], a1, a2, by rw [e5]; exact a3⟩
      clear hK e5
      generalize hnb : numB rec ((blkD y).take j) (own + 1) = NB at *
      obtain ⟨row, at2, rws⟩ := NB
      simp only at r1 r2 r3 nxt' k4 ⊢
      refine b_asg ?_
      simp
      refine hrec hn zs S4 _ (ws ++ .tup row :: tups rws) hb at2 hz hz' k4 ?_ ?_ fun S5 g5 k5 => ?_
      · simp only [List.length_append, List.length_cons, List.length_map]
        omega
      · rw [r2, hown]
        simp only [List.length_append, List.length_cons, List.length_map]
        omega
      have f5 := g5.keep _ _ (Ne.symm hne) f4
      have k5' : S5[hb]? = some (.dk (dkF 1 (ws ++ .tup row :: (tups rws ++ tups (rec zs at2).2.2)))) := by rw [k5]; simp
      simp only [evT, evTs, wp_bind, wp_pure]
      have v1 : valD (dkF 1 (ws ++ .tup row :: (tups rws ++ tups (rec zs at2).2.2))) (.inl own) = some (.tup row) := by rw [hown]; exact val_dkF rfl
      have p2 : putD (dkF 1 (ws ++ .tup row :: (tups rws ++ tups (rec zs at2).2.2))) (.inl own) (.tup (row ++ [.tup (rec zs at2).1])) = dkF 1 (ws ++ .tup (row ++ [.tup (rec zs at2).1]) :: (tups rws ++ tups (rec zs at2).2.2)) := by rw [hown]; exact put_old rfl
      have cn := hcn hn zs at2 hz'
      have hzl := hall zs hz hz'
      refine b_sub (.tup (row ++ [.tup (rec zs at2).1])) (.hd hb) (.int own) (S5.set hb (.dk (dkF 1 (ws ++ .tup (row ++ [.tup (rec zs at2).1]) :: (tups rws ++ tups (rec zs at2).2.2))))) ?_ rfl rfl ?_ ?_
      · have hb2 := bin_addT (S := S5) (xs := row) (ys := [.tup (rec zs at2).1]) (Nat.le_of_lt (big (by simp only [List.length_cons, List.length_nil]; omega)))
        simp [pu, puEs, ix_dk k5', v1, sl1, hb2]
      · rw [set_dk k5' rfl ?_, p2]
        rw [dkF_len]
        refine big ?_
        simp only [List.length_append, List.length_cons, List.length_map]
        omega
      · refine b_nil (nxt' _ _ _ ((g4.trans g5).set) (get_set_ne f5 hne) ?_)
        rw [get_set k5']
        simp
    · rintro σ S4 ⟨o6, o7, rfl, g4, f4, k4⟩
      rw [List.take_length] at k4 ⊢
      exact b_nil (nxt2 _ _ _ _ g4 f4 k4)
  · rintro σ S1 ⟨o4, o5, o6, o7, rfl, ge, hf, hk⟩
    rw [List.take_length] at hf hk ⊢
    exact then_nx (b_retP (.tup [.tup (numL rec ys at_).1, .int (numL rec ys at_).2.1]) (by simp [pu, puEs, seq_hd hf, sl2]) (hQ S1 ge hk))
theorem sp_place : ∀ (n k : Nat), PlOk (num n) (Gs n) (cnt n) (run (g fuel) (k + n + 2) f_place_block)
  | 0, k => place_step (fuel := fuel) (n := 0) (k := k) (c := 0) (rec := fun _ at_ => ([], at_, [])) (all := fun _ => []) (fun h => absurd rfl h) (fun h => absurd rfl h) (fun ys _ _ => Nat.zero_le _)
  | n + 1, k => place_step (fuel := fuel) (n := n + 1) (k := k + n + 1) (fun _ => sp_place n k) (fun _ => cnt_num n) (fun ys a b => allS_len a b)
end K25
set_option Elab.async false
set_option linter.all false
set_option maxRecDepth 100000
set_option maxHeartbeats 1000000
namespace K25
open PySem Mp L2
theorem fn_numbered : (g fuel).fns f_numbered = ⟨5, 1, b_numbered⟩ := rfl
theorem wi_rng2 {P : En} {σ : Sl} {S : Sto} {e e2 : E} {Q : Src → Sto → Prop} (he : wp (evE P e σ) (fun d S1 => wp (evE P e2 σ) (fun d2 S2 => ∃ i j, d = .int i ∧ d2 = .int j ∧ (-(2 ^ 62) ≤ i ∧ i < 2 ^ 62) ∧ (-(2 ^ 62) ≤ j ∧ j < 2 ^ 62) ∧ Q (.st (rngD i (j - i).toNat)) S2) S1) S) : wp (evIt P (.rng (.cons e (.cons e2 .nil))) σ) Q S := by
  simp only [evIt, wp_bind, wes_cons, wes_nil]
  refine wp_mono he fun d S1 h1 => wp_mono h1 fun d2 S2 h2 => ?_
  obtain ⟨i, j, rfl, rfl, h, h', h2⟩ := h2
  have hr : inR i = true := by
    unfold inR
    rw [Bool.and_eq_true]
    exact ⟨decide_eq_true h.1, decide_eq_true h.2⟩
  have hr' : inR j = true := by
    unfold inR
    rw [Bool.and_eq_true]
    exact ⟨decide_eq_true h'.1, decide_eq_true h'.2⟩
  simp only [hr, hr', Bool.and_self, if_true, wp_pure]
  exact h2
theorem Gd.ge {S S' : Sto} {o : Ob} (h : Gd S.length (S ++ [o]) S') : Ge S S' := ⟨by have := h.len; simp at this; omega, fun i u e => h.keep i u (by have := lt_of_get e; omega) (get_push e)⟩
/-- numbered -/
theorem sp_numbered {n k : Nat} (hn : n ≤ 4) {ys : List D} {S : Sto} {Q : D → Sto → Prop} (hy : ys.length ≤ 4) (hyP : ∀ y ∈ ys, Gs n y)
    (hQ : ∀ S', Ge S S' → Q (.tup [.tup (allS n ys), .tup (tups (num n ys 1).2.2), .tup (num n ys 1).1]) S') : wp (run (g fuel) (k + n + 3) f_numbered [.tup ys]) Q S := by
  refine wp_run fn_numbered rfl ?_
  show wpB (envOf (g fuel) (k + n + 2)) b_numbered [some (.tup ys), none, none, none, none] (fun f _ S' => match f with
    | .rt d => Q d S'
    | .nx => Q .non S'
    | _ => False) S
  have hc := cnt_le hn
  have hcl := allS_len hy hyP
  obtain ⟨c1, c2⟩ := cnt_num n ys 1 hyP
  refine b_asg ?_
  simp
  refine t_nm ?_
  refine b_asg ?_
  simp
  refine sp_place n k ys _ _ [] S.length 1 hy hyP get_new (by simp; omega) rfl fun S1 g1 k1 => ?_
  simp only [evT, evTs, wp_bind, wp_pure]
  refine b_ret ?_
  have g2 : Ge S S1 := g1.ge
  simp
  refine sp_all n k hn ys S1 _ hy hyP fun h S2 hh e2 g3 => ?_
  have k2 := g3.2 _ _ k1
  refine ⟨_, ⟨_, seq_hd e2, rfl⟩, ?_⟩
  refine wi_rng2 ?_
  simp
  refine ⟨by rw [c2]; omega, ?_⟩
  have hi : (num n ys 1).2.1.toNat - 1 = (tups (num n ys 1).2.2).length := by rw [List.length_map, c1, c2]; omega
  rw [hi]
  refine wp_comp_rg (fun i acc S' => acc = (tups (num n ys 1).2.2).take i ∧ S' = S2) ⟨rfl, rfl⟩ ?_ ?_
  · rintro i acc S' hlt ⟨rfl, rfl⟩
    refine t_nm ?_
    have hl : i < (tups (num n ys 1).2.2).length := hlt
    have e4 : valD (dkF 1 (tups (num n ys 1).2.2)) (.inl (1 + (i : Int))) = some (tups (num n ys 1).2.2)[i] := by
      have e5 := val_dkF (k := 1) (j := 1 + i) (a := (tups (num n ys 1).2.2).take i) (b := (tups (num n ys 1).2.2).drop (i + 1)) (u := (tups (num n ys 1).2.2)[i]) (by rw [List.length_take]; omega)
      rw [← List.drop_eq_getElem_cons hl, List.take_append_drop] at e5
      exact e5
    rw [List.nil_append] at k2
    generalize tups (num n ys 1).2.2 = ws at *
    simp [wipeD, ix_dk k2, e4]
  · rintro acc S' ⟨rfl, rfl⟩
    rw [List.take_length]
    refine ⟨Nat.le_of_lt (big (by rw [List.length_map, c1]; omega)), sl3, ?_⟩
    exact hQ _ (g2.trans g3)
end K25
set_option Elab.async false
set_option linter.all false
set_option maxRecDepth 100000
set_option maxHeartbeats 1000000
namespace L2
open PySem Mp
/-- two loops in one comprehension: the outer one over what stands -/
theorem wp_loopC2 {dsrc : List D} {t : D → M Sl} {c : Sl → M Bool} {inn : Sl → M (List D)} {Q : List D → Sto → Prop} (I : Nat → List D → Sto → Prop)
    (step : ∀ i d acc S, dsrc[i]? = some d → I i acc S → wp (t d) (fun σ1 S1 => wp (c σ1) (fun k S2 => if k = true then wp (inn σ1) (fun v S3 => I (i + 1) (acc ++ v) S3) S2 else I (i + 1) acc S2) S1) S) (hend : ∀ acc S, I dsrc.length acc S → Q acc S) :
    ∀ k i acc S, i ≤ dsrc.length → dsrc.length < k + i → I i acc S → wp (loopC2 (.st dsrc) t c inn k i) (fun ds S' => Q (acc ++ ds) S') S := by
  intro k
  induction k with
  | zero => intro i acc S hi hk h; omega
  | succ k ih =>
    intro i acc S hi hk h
    simp only [loopC2]
    rw [wp_bind]
    refine ⟨dsrc[i]?, S, rfl, ?_⟩
    cases e1 : dsrc[i]? with
    | none =>
      have h1 : dsrc.length ≤ i := List.getElem?_eq_none_iff.mp e1
      have h2 : i = dsrc.length := by omega
      subst h2
      exact wp_pure.mpr (by rw [List.append_nil]; exact hend acc S h)
    | some d =>
      have hi' : i < dsrc.length := (List.getElem?_eq_some_iff.mp e1).1
      simp only [wp_bind]
      refine wp_mono (step i d acc S e1 h) fun σ1 S1 h2 => wp_mono h2 fun b S2 h3 => ?_
      cases b with
      | true =>
        rw [if_pos rfl] at h3
        rw [wp_true, wp_bind]
        refine wp_mono h3 fun v S3 h4 => ?_
        rw [wp_bind]
        refine wp_mono (ih _ _ _ hi' (by omega) h4) fun ds S' h5 => wp_pure.mpr ?_
        rw [List.append_assoc] at h5
        exact h5
      | false =>
        rw [if_neg Bool.false_ne_true] at h3
        rw [wp_false]
        exact ih _ _ _ hi' (by omega) h3
theorem wp_comp2_st {dsrc : List D} {fuel : Nat} {t : D → M Sl} {c : Sl → M Bool} {inn : Sl → M (List D)} {Q : List D → Sto → Prop} {S : Sto} (I : Nat → List D → Sto → Prop) (h0 : I 0 [] S)
    (step : ∀ i d acc S, dsrc[i]? = some d → I i acc S → wp (t d) (fun σ1 S1 => wp (c σ1) (fun k S2 => if k = true then wp (inn σ1) (fun v S3 => I (i + 1) (acc ++ v) S3) S2 else I (i + 1) acc S2) S1) S) (hend : ∀ acc S, I dsrc.length acc S → Q acc S) :
    wp (atCap (.st dsrc) fuel fun k => loopC2 (.st dsrc) t c inn k 0) Q S :=
  wp_loopC2 I step hend (dsrc.length + 1 + fuel) 0 [] S (Nat.zero_le _) (by omega) h0
theorem we_comp2 {P : En} {σ : Sl} {S : Sto} {Q : D → Sto → Prop} {own own1 : List Nat} {t t1 : T} {it it1 : Mp.It} {cc c1 : Eo} {e : E} : wp (evE P (.comp2 own own1 t it cc t1 it1 c1 e) σ) Q S ↔ wp (evIt P it σ) (fun src S1 => wp (atCap src P.fuel fun k => loopC2 src (fun x => evT P t x (wipeD σ own)) (fun σ => evC P cc σ) (fun σ => do
      let src1 ← evIt P it1 σ
      atCap src1 P.fuel fun k => loopC src1 (fun x => evT P t1 x (wipeD σ own1)) (fun σ => evC P c1 σ) (fun σ => evE P e σ) k 0) k 0) (fun ds S2 => ds.length ≤ sizeLine ∧ Q (.lst ds) S2) S1) S := by
  simp [evE]
end L2
namespace K25
open PySem Mp L2
theorem fn_hands : (g fuel).fns f_hands_of = ⟨4, 1, b_hands_of⟩ := rfl
/-- how often a process runs -/
def cpD : D → Nat
  | .tup (_ :: _ :: .int c :: _) => c.toNat
  | _ => 0
/-- the hands of processes, from the j-th process on -/
def handsF : Nat → List D → List D
  | _, [] => []
  | j, p :: r => ((List.range (cpD p)).map fun k => .tup [.int (j : Nat), .int (k : Nat)]) ++ handsF (j + 1) r
theorem handsF_app : ∀ {j : Nat} {ps qs : List D}, handsF j (ps ++ qs) = handsF j ps ++ handsF (j + ps.length) qs
  | j, [], qs => rfl
  | j, p :: r, qs => by
    have e : j + 1 + r.length = j + (r.length + 1) := by omega
    simp [handsF, handsF_app (j := j + 1) (ps := r), e]
/-- the processes of the program -/
theorem Pr4.procs {d : D} {vs : List VR} {chs procs : List D} (h : Pr4 d vs chs procs) : procs.length ≤ 2 ∧ ∀ p ∈ procs, ∃ nm cp own body, PrG nm cp p own body ∧ 1 ≤ cp ∧ cp ≤ 2 := by
  obtain ⟨p, cp, own, body, ps, rfl, hp, c1, c2, hps⟩ := h.proc
  rcases hps with rfl | ⟨r, own', body', rfl, hr⟩
  · exact ⟨by simp, fun q hq => by rw [List.mem_singleton.mp hq]; exact ⟨_, _, _, _, hp, c1, c2⟩⟩
  · refine ⟨by simp, fun q hq => ?_⟩
    simp only [List.mem_cons, List.not_mem_nil, or_false] at hq
    rcases hq with rfl | rfl
    · exact ⟨_, _, _, _, hp, c1, c2⟩
    · exact ⟨_, _, _, _, hr, by omega, by omega⟩
theorem handsF_len : ∀ {j : Nat} {ps : List D}, (∀ p ∈ ps, cpD p ≤ 2) → (handsF j ps).length ≤ ps.length * 2
  | _, [], _ => by simp [handsF]
  | j, p :: r, h => by
    have h1 := handsF_len (j := j + 1) (ps := r) fun q hq => h q (List.mem_cons_of_mem _ hq)
    have h2 := h p List.mem_cons_self
    simp only [handsF, List.length_append, List.length_map, List.length_range, List.length_cons]
    omega
theorem sp_hands {k : Nat} {d : D} {vs : List VR} {chs procs : List D} {S : Sto} {Q : D → Sto → Prop} (h : Pr4 d vs chs procs) (q : Q (.tup (handsF 0 procs)) S) : wp (run (g fuel) (k + 1) f_hands_of [d]) Q S := by
  obtain ⟨hl, hp⟩ := h.procs
  have hcp : ∀ p ∈ procs, cpD p ≤ 2 := fun p hm => by
    obtain ⟨nm, cp, own, body, ⟨rfl, _, _, _⟩, c1, c2⟩ := hp p hm
    show cp.toNat ≤ 2
    omega
  obtain ⟨rfl, _, _, _⟩ := h
  refine wp_run fn_hands rfl ?_
  show wpB (envOf (g fuel) k) b_hands_of [some (.tup [.str ("program" : Str), .tup (vs.map VR.d), .tup chs, .tup procs]), none, none, none] (fun f _ S' => match f with
    | .rt d => Q d S'
    | .nx => Q .non S'
    | _ => False) S
  refine b_ret ?_
  simp [we_comp2]
  refine wi_enT (xs := procs) ?_
  simp
  refine wp_comp2_st (fun i acc S' => acc = handsF 0 (procs.take i) ∧ S' = S) ⟨rfl, rfl⟩ ?_ ?_
  · rintro i x acc S' hx ⟨rfl, rfl⟩
    rw [enumD_get] at hx
    obtain ⟨p, hp1, rfl⟩ := Option.map_eq_some_iff.mp hx
    obtain ⟨nm, cp, own, body, ⟨rfl, _, _, _⟩, c1, c2⟩ := hp p (List.mem_of_getElem? hp1)
    simp only [evT, evTs, wp_bind, wp_pure]
    simp [wipeD]
    refine wi_rng1 ?_
    simp
    refine ⟨by omega, ?_⟩
    refine wp_comp_rg (fun m acc S'' => acc = ((List.range cp.toNat).map fun k => D.tup [.int (i : Nat), .int (k : Nat)]).take m ∧ S'' = S') ⟨rfl, rfl⟩ ?_ ?_
    · rintro m acc S'' hm ⟨rfl, rfl⟩
      have e := take_snoc (l := (List.range cp.toNat).map fun k => D.tup [.int (i : Nat), .int (k : Nat)]) (i := m) (x := .tup [.int (i : Nat), .int (m : Nat)]) (by
        rw [List.getElem?_map, List.getElem?_range hm]
        rfl)
      rw [e]
      generalize List.take m _ = acc0
      simp [sl2]
    · rintro acc S'' ⟨rfl, rfl⟩
      refine ⟨?_, rfl⟩
      have e2 : ((List.range cp.toNat).map fun k => D.tup [.int (i : Nat), .int (k : Nat)]).take cp.toNat = (List.range cp.toNat).map fun k => D.tup [.int (i : Nat), .int (k : Nat)] := List.take_of_length_le (by simp)
      have hil := (List.getElem?_eq_some_iff.mp hp1).1
      have e3 : (procs.take i).length = i := by rw [List.length_take]; omega
      rw [e2, take_snoc hp1, handsF_app, Nat.zero_add, e3]
      simp [handsF, cpD]
  · rintro acc S' ⟨rfl, rfl⟩
    rw [enumD_len, List.take_length]
    refine ⟨Nat.le_of_lt (big ?_), q⟩
    have := handsF_len (j := 0) hcp
    omega
end K25
set_option Elab.async false
set_option linter.all false
set_option maxRecDepth 100000
set_option maxHeartbeats 1000000
namespace K25
open PySem Mp L2
theorem fn_handnum : (g fuel).fns f_hand_number = ⟨6, 3, b_hand_number⟩ := rfl
def nmD : D → Str
  | .tup (_ :: .str x :: _) => x
  | _ => ""
/-- this hand's process has that name, and it is that copy -/
def hit (procs : List D) (nm : Str) (c : Int) : D → Bool
  | .tup [.int j, .int k] => decide (((procs[j.toNat]?).map nmD) = some nm) && decide (k = c)
  | _ => false
def hnum (procs : List D) (nm : Str) (c : Int) : D := match (handsF 0 procs).findIdx? (hit procs nm c) with
  | some i => .int (i : Nat)
  | none => .non
theorem handsF_mem : ∀ {j : Nat} {ps : List D} {h : D}, h ∈ handsF j ps → ∃ i k p, h = .tup [.int ((j + i : Nat) : Int), .int ((k : Nat) : Int)] ∧ ps[i]? = some p ∧ k < cpD p
  | _, [], _, hm => by cases hm
  | j, p :: r, h, hm => by
    rw [handsF, List.mem_append] at hm
    rcases hm with hm | hm
    · obtain ⟨k, hk, rfl⟩ := List.mem_map.mp hm
      exact ⟨0, k, p, rfl, rfl, List.mem_range.mp hk⟩
    · obtain ⟨i, k, q, rfl, h2, h3⟩ := handsF_mem hm
      exact ⟨i + 1, k, q, by rw [Nat.add_assoc, Nat.add_comm 1 i], h2, h3⟩
theorem sp_handnum {k : Nat} {d : D} {vs : List VR} {chs procs : List D} {nm : Str} {c : Int} {S : Sto} {Q : D → Sto → Prop} (h : Pr4 d vs chs procs) (q : Q (hnum procs nm c) S) : wp (run (g fuel) (k + 2) f_hand_number [d, .str nm, .int c]) Q S := by
  have hP := h
  obtain ⟨hl, hp⟩ := h.procs
  obtain ⟨rfl, _, _, _⟩ := h
  refine wp_run fn_handnum rfl ?_
  show wpB (envOf (g fuel) (k + 1)) b_hand_number [some (.tup [.str ("program" : Str), .tup (vs.map VR.d), .tup chs, .tup procs]), some (.str nm), some (.int c), none, none, none] (fun f _ S' => match f with
    | .rt d => Q d S'
    | .nx => Q .non S'
    | _ => False) S
  refine b_for ?_
  refine wi_enT (xs := handsF 0 procs) ?_
  simp
  refine sp_hands hP ?_
  refine ⟨.inl rfl, ?_⟩
  refine wp_for_en (fun i σ S' => S' = S ∧ (∀ x ∈ (handsF 0 procs).take i, hit procs nm c x = false) ∧ ∃ o3 o4 o5, σ = [some (.tup [.str ("program" : Str), .tup (vs.map VR.d), .tup chs, .tup procs]), some (.str nm), some (.int c), o3, o4, o5]) ⟨rfl, fun x hx => (by cases hx), none, none, none, rfl⟩ ?_ ?_
  · rintro i x σ S' hx ⟨rfl, hno, o3, o4, o5, rfl⟩
    obtain ⟨j, m, p, rfl, hj, hm⟩ := handsF_mem (List.mem_of_getElem? hx)
    obtain ⟨pn, cp, own, body, ⟨rfl, _, _, _⟩, c1, c2⟩ := hp p (List.mem_of_getElem? hj)
    simp only [evT, evTs, wp_bind, wp_pure]
    show wpB (envOf (g fuel) (k + 1)) _ _ (fun f σ S => Turn1 (f, σ) S _ _) S'
    have e1 : atI procs ((0 + j : Nat) : Int) = some (.tup [.str ("process" : Str), .str pn, .int cp, .tup own, .tup body]) := L2.atI_nat (by rw [Nat.zero_add]; exact hj)
    have hh : hit procs nm c (.tup [.int ((0 + j : Nat) : Int), .int ((m : Nat) : Int)]) = (decide (pn = nm) && decide ((m : Int) = c)) := by
      simp [hit, hj, nmD]
    have hpu : pu (.and_ (.cmp .eq (.ix (.ix (.ix (.loc 0) (.cst (.int (3)))) (.loc 4)) (.cst (.int (1)))) (.loc 1)) (.cmp .eq (.loc 5) (.loc 2))) [some (.tup [.str ("program" : Str), .tup (vs.map VR.d), .tup chs, .tup procs]), some (.str nm), some (.int c), some (.int (0 + (i : Nat))), some (.int ((0 + j : Nat) : Int)), some (.int ((m : Nat) : Int))] S' = some (.bl (decide (pn = nm) && decide ((m : Int) = c))) := by
      have e2 : pu (.cmp .eq (.ix (.ix (.ix (.loc 0) (.cst (.int (3)))) (.loc 4)) (.cst (.int (1)))) (.loc 1)) [some (.tup [.str ("program" : Str), .tup (vs.map VR.d), .tup chs, .tup procs]), some (.str nm), some (.int c), some (.int (0 + (i : Nat))), some (.int ((0 + j : Nat) : Int)), some (.int ((m : Nat) : Int))] S' = some (.bl (decide (pn = nm))) := by
        have e1' : atI procs ((j : Nat) : Int) = some (.tup [.str ("process" : Str), .str pn, .int cp, .tup own, .tup body]) := L2.atI_nat hj
        simp [pu, e1']
      have e3 : pu (.cmp .eq (.loc 5) (.loc 2)) [some (.tup [.str ("program" : Str), .tup (vs.map VR.d), .tup chs, .tup procs]), some (.str nm), some (.int c), some (.int (0 + (i : Nat))), some (.int ((0 + j : Nat) : Int)), some (.int ((m : Nat) : Int))] S' = some (.bl (decide ((m : Int) = c))) := by
        simp [pu]
      rw [pu, e2]
      show (if decide (pn = nm) = true then _ else _) = _
      rw [e3]
      cases decide (pn = nm) <;> rfl
    have e0 : ((0 : Int) + (i : Nat)) = ((i : Nat) : Int) := by omega
    refine b_ifP (.bl (decide (pn = nm) && decide ((m : Int) = c))) (decide (pn = nm) && decide ((m : Int) = c)) ?_ rfl (fun ht => ?_) fun hf => ?_
    · rw [← e0]
      exact hpu
    · refine b_retP (.int (i : Nat)) rfl ?_
      have e : hnum procs nm c = .int (i : Nat) := by
        unfold hnum
        have : (handsF 0 procs).findIdx? (hit procs nm c) = some i := by
          obtain ⟨hi, hg⟩ := List.getElem?_eq_some_iff.mp hx
          refine List.findIdx?_eq_some_iff_getElem.mpr ⟨hi, by rw [hg, hh]; exact ht, fun z hz => ?_⟩
          rw [hno _ (List.mem_take_iff_getElem.mpr ⟨z, by omega, rfl⟩)]
          exact Bool.false_ne_true
        rw [this]
      rw [e] at q
      exact q
    · refine b_end (b_nil ⟨rfl, fun x hm => ?_, _, _, _, rfl⟩)
      rw [take_snoc hx, List.mem_append] at hm
      rcases hm with hm | hm
      · exact hno x hm
      · rw [List.mem_singleton.mp hm, hh]
        exact hf
  · rintro σ S' ⟨rfl, hno, o3, o4, o5, rfl⟩
    rw [List.take_length] at hno
    have e : hnum procs nm c = .non := by
      unfold hnum
      rw [List.findIdx?_eq_none_iff.mpr hno]
    rw [e] at q
    exact then_nx (b_retP .non rfl q)
end K25
set_option Elab.async false
set_option linter.all false
set_option maxRecDepth 100000
set_option maxHeartbeats 1000000
namespace K25
open PySem Mp L2
/-! ### where the variables lie -/
/-- how many places a variable takes -/
def wid (v : VR) : Nat := (if v.size > 1 then v.size else 1).toNat
/-- the dict of the shared variables, from place a on -/
def glo : Nat → List VR → List (Key × D)
  | _, [] => []
  | a, v :: r => (.inr v.nm, .tup [.int (a : Nat), .int v.size]) :: glo (a + wid v) r
def fstV (vs : List VR) : List D := vs.flatMap fun v => List.replicate (wid v) (.int v.first)
def rngV (vs : List VR) : List D := vs.flatMap fun v => List.replicate (wid v) (.tup [.int 0, .int v.hi])
/-- a process's own variables -/
def ownD : D → List D
  | .tup [_, _, _, .tup own, _] => own
  | _ => []
/-- the own variables of a hand -/
def ownH (procs : List D) : D → List D
  | .tup [.int j, _] => match procs[j.toNat]? with
    | some p => ownD p
    | none => []
  | _ => []
def fstO : D → D
  | .tup [_, _, _, _, _, i] => i
  | _ => .non
def rngO : D → D
  | .tup [_, _, _, lo, hi, _] => .tup [lo, hi]
  | _ => .non
def fstH (procs hs : List D) : List D := hs.flatMap fun h => (ownH procs h).map fstO
def rngH (procs hs : List D) : List D := hs.flatMap fun h => (ownH procs h).map rngO
theorem fstV_app {a b : List VR} : fstV (a ++ b) = fstV a ++ fstV b := List.flatMap_append
theorem rngV_app {a b : List VR} : rngV (a ++ b) = rngV a ++ rngV b := List.flatMap_append
theorem glo_app : ∀ {n : Nat} {a b : List VR}, glo n (a ++ b) = glo n a ++ glo (n + (fstV a).length) b
  | n, [], b => rfl
  | n, v :: r, b => by
    have e : n + wid v + (fstV r).length = n + (fstV (v :: r)).length := by
      show _ = n + (List.flatMap _ (v :: r)).length
      rw [List.flatMap_cons, List.length_append, List.length_replicate]
      show _ = n + (wid v + (fstV r).length)
      omega
    simp only [List.cons_append, glo, glo_app (n := n + wid v) (a := r), e]
/-- the names differ -/
theorem Pr4.names {d : D} {vs : List VR} {chs procs : List D} (h : Pr4 d vs chs procs) : (vs.map VR.nm).Nodup ∧ vs.length ≤ 3 ∧ ∀ v ∈ vs, v.nm ≠ "v" ∧ wid v ≤ 2 := by
  obtain ⟨hi, ys, ts, rfl, hy, ht⟩ := h.vars
  have n1 : ("x" : Str) ≠ "y" ∧ ("x" : Str) ≠ "t" ∧ ("y" : Str) ≠ "t" ∧ ("x" : Str) ≠ "v" ∧ ("y" : Str) ≠ "v" ∧ ("t" : Str) ≠ "v" := ⟨by decide +kernel, by decide +kernel, by decide +kernel, by decide +kernel, by decide +kernel, by decide +kernel⟩
  rcases hy with rfl | ⟨i, rfl⟩ <;> rcases ht with rfl | rfl <;> simp [n1, wid]
end K25
set_option Elab.async false
set_option linter.all false
set_option maxRecDepth 100000
set_option maxHeartbeats 1000000
namespace K25
open PySem Mp L2
theorem fn_told : (g fuel).fns f_told = ⟨13, 1, b_told⟩ := rfl
/-- the first loop of told: the hands, by value -/
theorem told_hands {k : Nat} {d : D} {vs : List VR} {chs procs : List D} {S : Sto} {r : Ss} {K : K2} {m : Nat} {o2 o3 o4 o5 o6 o7 o8 o9 o10 o11 o12 : Option D} (h : Pr4 d vs chs procs) (hm : S[m]? = some (.lst []))
    (q : ∀ o2 o3 o12, wpB (envOf (g fuel) k) r [some d, some (.lst (handsF 0 procs)), o2, o3, o4, o5, o6, o7, o8, o9, o10, o11, o12] K S) :
    wpB (envOf (g fuel) k) (.cons (.for_ (.tp (.cons (.nm 3) (.cons (.nm 2) .nil))) (.enum (.ix (.loc 0) (.cst (.int (3)))))
    (.cons (.asg (.nm 1) (.bin .add (.loc 1) (.comp false [12] (.nm 12) (.rng (.cons (.ix (.loc 2) (.cst (.int (2)))) .nil)) .no (.tup (.cons (.loc 3) (.cons (.loc 12) .nil))))))
    .nil)) r) [some d, some (.hd m), o2, o3, o4, o5, o6, o7, o8, o9, o10, o11, o12] K S := by
  obtain ⟨hl, hp⟩ := h.procs
  have hcp : ∀ p ∈ procs, cpD p ≤ 2 := fun p hm => by
    obtain ⟨nm, cp, own, body, ⟨rfl, _, _, _⟩, c1, c2⟩ := hp p hm
    show cp.toNat ≤ 2
    omega
  have hne : procs ≠ [] := by
    obtain ⟨p, _, _, _, ps, rfl, _⟩ := h.proc
    exact List.cons_ne_nil _ _
  obtain ⟨rfl, _, _, _⟩ := h
  refine b_for ?_
  refine wi_enT (xs := procs) ?_
  simp
  refine wp_for_en (fun i σ S' => S' = S ∧ ∃ v o2 o3 o12, σ = [some (.tup [.str ("program" : Str), .tup (vs.map VR.d), .tup chs, .tup procs]), some v, o2, o3, o4, o5, o6, o7, o8, o9, o10, o11, o12] ∧ lstOf S v = some (handsF 0 (procs.take i)) ∧ (i ≠ 0 → v = .lst (handsF 0 (procs.take i)))) ⟨rfl, _, _, _, _, rfl, lst_hd hm, fun z => absurd rfl z⟩ ?_ ?_
  · rintro i p σ S' hx ⟨rfl, v, o2, o3, o12, rfl, hv, _⟩
    obtain ⟨nm, cp, own, body, ⟨rfl, _, _, _⟩, c1, c2⟩ := hp p (List.mem_of_getElem? hx)
    simp only [evT, evTs, wp_bind, wp_pure]
    show wpB (envOf (g fuel) k) _ _ (fun f σ S => Turn1 (f, σ) S _ _) S'
    generalize hK : (fun f σ S => Turn1 (f, σ) S _ _ : K2) = K'
    have hil := (List.getElem?_eq_some_iff.mp hx).1
    have hlen := handsF_len (j := 0) (ps := procs.take i) fun p hm => hcp p (List.mem_of_mem_take hm)
    have e3 : (procs.take i).length = i := by rw [List.length_take]; omega
    refine b_asg ?_
    simp [wipeD]
    refine wi_rng1 ?_
    simp
    refine ⟨by omega, ?_⟩
    refine wp_comp_rg (fun m acc S'' => acc = ((List.range cp.toNat).map fun k => D.tup [.int (i : Nat), .int (k : Nat)]).take m ∧ S'' = S') ⟨rfl, rfl⟩ ?_ ?_
    · rintro m acc S'' hlt ⟨rfl, rfl⟩
      have e := take_snoc (l := (List.range cp.toNat).map fun k => D.tup [.int (i : Nat), .int (k : Nat)]) (i := m) (x := .tup [.int (i : Nat), .int (m : Nat)]) (by
        rw [List.getElem?_map, List.getElem?_range hlt]
        rfl)
      rw [e]
      generalize List.take m _ = acc0
      refine t_nm ?_
      simp [sl2]
    · rintro acc S'' ⟨rfl, rfl⟩
      have e2 : ((List.range cp.toNat).map fun k => D.tup [.int (i : Nat), .int (k : Nat)]).take cp.toNat = (List.range cp.toNat).map fun k => D.tup [.int (i : Nat), .int (k : Nat)] := List.take_of_length_le (by simp)
      have e4 : handsF 0 (procs.take (i + 1)) = handsF 0 (procs.take i) ++ (List.range cp.toNat).map fun k => D.tup [.int (i : Nat), .int (k : Nat)] := by
        rw [take_snoc hx, handsF_app, Nat.zero_add, e3]
        simp [handsF, cpD]
      rw [e2]
      refine ⟨Nat.le_of_lt (big (by simp; omega)), ?_⟩
      refine ⟨_, bin_addL hv rfl (Nat.le_of_lt (big (by simp; omega))), ?_⟩
      refine t_nm (b_nil ?_)
      rw [← hK]
      exact ⟨rfl, _, _, _, _, rfl, by rw [e4]; rfl, fun _ => by rw [e4]⟩
  · rintro σ S' ⟨rfl, v, o2, o3, o12, rfl, hv, hv2⟩
    rw [List.take_length] at hv2
    have : procs.length ≠ 0 := fun z => hne (List.length_eq_zero_iff.mp z)
    rw [hv2 this]
    exact then_nx (q _ _ _)
end K25
set_option Elab.async false
set_option linter.all false
set_option maxRecDepth 100000
set_option maxHeartbeats 1000000
namespace K25
open PySem Mp L2
/-- n handles from m on -/
def hdsF (m n : Nat) : List D := (List.range n).map fun i => .hd (m + i)
theorem hdsF_succ {m n : Nat} : hdsF m (n + 1) = hdsF m n ++ [.hd (m + n)] := by
  unfold hdsF
  rw [List.range_succ, List.map_append]
  rfl
theorem hdsF_len {m n : Nat} : (hdsF m n).length = n := by simp [hdsF]
/-- told: the empty cells, ranges and first values -/
theorem told_par {k : Nat} {S : Sto} {r : Ss} {K : K2} {hs : List D} {d : D} {o2 o3 o4 o5 o6 o7 o8 o9 o10 o11 o12 : Option D} (hl : hs.length ≤ 10)
    (q : wpB (envOf (g fuel) k) r [some d, some (.lst hs), o2, o3, some (.lst (hdsF S.length (hs.length + 1))), some (.hd (S.length + hs.length + 1)), some (.hd (S.length + hs.length + 2)), o7, o8, o9, o10, o11, o12] K (S ++ List.replicate (hs.length + 1) (Ob.dk []) ++ [Ob.lst []] ++ [Ob.lst []])) :
    wpB (envOf (g fuel) k) (.cons (.par [4, 5, 6] (.cons (.bin .add (.comp false [8] (.nm 8) (.seq (.loc 1)) .no .dnK) (.lst false (.cons .dnK .nil))) (.cons (.lst true .nil) (.cons (.lst true .nil) .nil)))) r) [some d, some (.lst hs), o2, o3, o4, o5, o6, o7, o8, o9, o10, o11, o12] K S := by
  refine b_cons ?_
  show wp (evS _ (.par _ _) _) _ S
  simp only [evS, wp_bind]
  simp [wipeD]
  refine wi_seqT (xs := hs) ?_
  simp
  refine wp_comp_st (fun i acc S' => acc = hdsF S.length i ∧ S' = S ++ List.replicate i (Ob.dk [])) ⟨rfl, by simp⟩ ?_ ?_
  · rintro i x acc S' hx ⟨rfl, rfl⟩
    refine t_nm ?_
    simp [hdsF_succ, List.replicate_succ']
  · rintro acc S' ⟨rfl, rfl⟩
    refine ⟨Nat.le_of_lt (big (by rw [hdsF_len]; omega)), sl1, _, bin_addL rfl rfl (Nat.le_of_lt (big (by rw [hdsF_len]; simp; omega))), ?_⟩
    simp [setAll]
    refine then_nx ?_
    have e1 : hdsF S.length hs.length ++ [D.hd (S.length + hs.length)] = hdsF S.length (hs.length + 1) := hdsF_succ.symm
    have e2 : List.replicate (hs.length + 1) (Ob.dk []) = List.replicate hs.length (Ob.dk []) ++ [Ob.dk []] := List.replicate_succ'
    rw [e2] at q
    rw [e1]
    simpa using q
end K25
set_option Elab.async false
set_option linter.all false
set_option maxRecDepth 100000
set_option maxHeartbeats 1000000
namespace K25
open PySem Mp L2
/-- told: a shared variable goes into every cell -/
theorem told_put {k : Nat} {S : Sto} {r : Ss} {K : K2} {m n f : Nat} {v : VR} {a0 a1 a3 a5 o7 a8 a9 a10 a11 a12 : Option D} {kvs : List (Key × D)} {fst : List D} (hz : kvs.length < sizeLine) (hf : S[f]? = some (.lst fst)) (hfo : f < m ∨ m + n ≤ f) (hc : ∀ i, i < n → S[m + i]? = some (.dk kvs))
    (q : ∀ S' o7, S'.length = S.length → (∀ i, i < n → S'[m + i]? = some (.dk (putD kvs (.inr v.nm) (.tup [.int (fst.length : Nat), .int v.size])))) → (∀ i o, (i < m ∨ m + n ≤ i) → S[i]? = some o → S'[i]? = some o) →
      wpB (envOf (g fuel) k) r [a0, a1, some v.d, a3, some (.lst (hdsF m n)), a5, some (.hd f), o7, a8, a9, a10, a11, a12] K S') :
    wpB (envOf (g fuel) k) (.cons (.for_ (.nm 7) (.seq (.loc 4))
      (.cons (.asg (.sub (.loc 7) (.ix (.loc 2) (.cst (.int (1))))) (.tup (.cons (.bi .len (.cons (.loc 6) .nil)) (.cons (.ix (.loc 2) (.cst (.int (2)))) .nil))))
      .nil)) r) [a0, a1, some v.d, a3, some (.lst (hdsF m n)), a5, some (.hd f), o7, a8, a9, a10, a11, a12] K S := by
  refine b_for ?_
  refine wi_seqT (xs := hdsF m n) ?_
  simp
  refine wp_for_st (fun j σ S' => ∃ o7, σ = [a0, a1, some v.d, a3, some (.lst (hdsF m n)), a5, some (.hd f), o7, a8, a9, a10, a11, a12] ∧ S'.length = S.length ∧ (∀ i, i < j → i < n → S'[m + i]? = some (.dk (putD kvs (.inr v.nm) (.tup [.int (fst.length : Nat), .int v.size])))) ∧
      (∀ i, j ≤ i → i < n → S'[m + i]? = some (.dk kvs)) ∧ ∀ i o, (i < m ∨ m + n ≤ i) → S[i]? = some o → S'[i]? = some o)
    ⟨o7, rfl, rfl, fun i h => absurd h (Nat.not_lt_zero _), fun i _ h => hc i h, fun i o _ e => e⟩ ?_ ?_
  · rintro j x σ S1 hj ⟨o7, rfl, l1, h1, h2, h3⟩
    have hjn : j < n := by
      have := (List.getElem?_eq_some_iff.mp hj).1
      rw [hdsF_len] at this
      exact this
    have hx : x = .hd (m + j) := by
      unfold hdsF at hj
      rw [List.getElem?_map, List.getElem?_range hjn] at hj
      exact (Option.some.inj hj).symm
    subst hx
    have hd := h2 j (Nat.le_refl _) hjn
    have hf1 := h3 f _ hfo hf
    refine t_nm ?_
    show wpB (envOf (g fuel) k) _ _ (fun f σ S => Turn1 (f, σ) S _ _) S1
    refine b_sub (.tup [.int (fst.length : Nat), .int v.size]) (.hd (m + j)) (.str v.nm) (S1.set (m + j) (.dk (putD kvs (.inr v.nm) (.tup [.int (fst.length : Nat), .int v.size])))) ?_ rfl rfl (set_dk hd rfl hz) (b_nil ?_)
    · have e2 : ixP S1 v.d (.int 2) = some (.int v.size) := rfl
      simp [pu, puEs, len_hd hf1, sl2, e2]
    · refine ⟨_, rfl, by simpa using l1, fun i hi hin => ?_, fun i hi hin => get_set_ne (h2 i (by omega) hin) (by omega), fun i o hi e => get_set_ne (h3 i o hi e) (by omega)⟩
      by_cases e : i = j
      · subst e
        exact get_set hd
      · exact get_set_ne (h1 i (by omega) hin) (by omega)
  · rintro σ S1 ⟨o7, rfl, l1, h1, h2, h3⟩
    rw [hdsF_len] at h1
    exact then_nx (q S1 o7 l1 (fun i hi => h1 i hi hi) h3)
end K25
set_option Elab.async false
set_option linter.all false
set_option maxRecDepth 100000
set_option maxHeartbeats 1000000
namespace K25
open PySem Mp L2
theorem glo_any {x : Str} : ∀ {n : Nat} {a : List VR}, x ∉ a.map VR.nm → ((glo n a).any fun kv => decide (kv.1 = (.inr x : Key))) = false
  | _, [], _ => rfl
  | n, v :: r, h => by
    rw [List.map_cons, List.mem_cons, not_or] at h
    rw [glo, List.any_cons, glo_any h.2]
    have : ¬((Sum.inr v.nm : Key) = Sum.inr x) := fun z => h.1 (Sum.inr.inj z).symm
    simp [this]
theorem glo_put {v : VR} {a : List VR} (hn : v.nm ∉ a.map VR.nm) : putD (glo 0 a) (.inr v.nm) (.tup [.int ((fstV a).length : Nat), .int v.size]) = glo 0 (a ++ [v]) := by
  rw [putD, if_neg (by rw [glo_any hn]; exact Bool.false_ne_true), glo_app, Nat.zero_add]
  rfl
end K25
set_option Elab.async false
set_option linter.all false
set_option maxRecDepth 100000
set_option maxHeartbeats 1000000
namespace K25
open PySem Mp L2
theorem rep_flat {x : D} : ∀ n, (List.replicate n [x]).flatten = List.replicate n x
  | 0 => rfl
  | n + 1 => by rw [List.replicate_succ, List.flatten_cons, rep_flat n]; rfl
/-- told: one shared variable's places -/
theorem told_cat {k : Nat} {S : Sto} {r : Ss} {K : K2} {e : E} {j R : Nat} {v : VR} {x : D} {σ : Sl} {xs : List D} (hw : wid v ≤ 2) (hs : v.size < 2 ^ 62) (h2 : σ[2]? = some (some v.d)) (hj : σ[j]? = some (some (.hd R))) (hR : S[R]? = some (.lst xs)) (hl : xs.length ≤ 1000) (he : pu (.lst false (.cons e .nil)) σ S = some (.lst [x]))
    (q : wpB (envOf (g fuel) k) r (σ.set j (some (.hd S.length))) K (S ++ [Ob.lst (xs ++ List.replicate (wid v) x)])) :
    wpB (envOf (g fuel) k) (.cons (.asg (.nm j) (.catM (.loc j) (.bin .mul (.lst false (.cons e .nil)) (.bi .max2 (.cons (.cst (.int (1))) (.cons (.ix (.loc 2) (.cst (.int (2)))) .nil)))))) r) σ K S := by
  refine b_asg ?_
  rw [we_catM]
  refine wp_pu (d := .hd R) (by simp [pu, hj]) ?_
  have e2 : ixP S v.d (.int 2) = some (.int v.size) := rfl
  have e1 : pu (.bi .max2 (.cons (.cst (.int (1))) (.cons (.ix (.loc 2) (.cst (.int (2)))) .nil))) σ S = some (.int (if v.size > 1 then v.size else 1)) := by
    simp [pu, puEs, h2, e2]
  have e3 : binP S .mul (.lst [x]) (.int (if v.size > 1 then v.size else 1)) = some (.lst (List.replicate (wid v) x)) := by
    rw [bin_rep rfl (by split <;> omega) (by split <;> omega) (Nat.le_of_lt (big (by show [x].length * wid v ≤ _; simp; omega))), rep_flat]
    rfl
  refine wp_pu (d := .lst (List.replicate (wid v) x)) (by rw [pu, he, e1]; exact e3) ?_
  refine ⟨xs ++ List.replicate (wid v) x, ?_, t_nm q⟩
  simp only [catP, lst_hd hR, lst_lst]
  rw [if_pos (Nat.le_of_lt (big (by simp; omega)))]
end K25
set_option Elab.async false
set_option linter.all false
set_option maxRecDepth 100000
set_option maxHeartbeats 1000000
namespace K25
open PySem Mp L2
theorem fstV_len : ∀ {vs : List VR}, (∀ v ∈ vs, wid v ≤ 2) → (fstV vs).length ≤ vs.length * 2 := fun {vs} h => flat_le fun v hv => by
  rw [List.length_replicate]; exact h v hv
theorem rngV_len : ∀ {vs : List VR}, (∀ v ∈ vs, wid v ≤ 2) → (rngV vs).length ≤ vs.length * 2 := fun {vs} h => flat_le fun v hv => by
  rw [List.length_replicate]; exact h v hv
theorem glo_len : ∀ {n : Nat} {vs : List VR}, (glo n vs).length = vs.length
  | _, [] => rfl
  | n, v :: r => by simp [glo, glo_len (vs := r)]
/-- told: the shared variables -/
theorem told_vars {k : Nat} {d : D} {vs : List VR} {chs procs : List D} {S : Sto} {r : Ss} {K : K2} {m n R F : Nat} {a1 a3 o2 o7 a8 a9 a10 a11 a12 : Option D} (h : Pr4 d vs chs procs) (hs : ∀ v ∈ vs, v.size < 2 ^ 62)
    (hR : S[R]? = some (.lst [])) (hF : S[F]? = some (.lst [])) (hRo : m + n ≤ R) (hFo : m + n ≤ F) (hc : ∀ i, i < n → S[m + i]? = some (.dk []))
    (q : ∀ S' o2 o7 R F, S.length ≤ S'.length → m + n ≤ R → m + n ≤ F → S'[R]? = some (.lst (rngV vs)) → S'[F]? = some (.lst (fstV vs)) → (∀ i, i < n → S'[m + i]? = some (.dk (glo 0 vs))) → (∀ i o, (i < m ∨ m + n ≤ i) → S[i]? = some o → S'[i]? = some o) →
      wpB (envOf (g fuel) k) r [some d, a1, o2, a3, some (.lst (hdsF m n)), some (.hd R), some (.hd F), o7, a8, a9, a10, a11, a12] K S') :
    wpB (envOf (g fuel) k) (.cons (.for_ (.nm 2) (.seq (.ix (.loc 0) (.cst (.int (1)))))
    (.cons (.for_ (.nm 7) (.seq (.loc 4))
      (.cons (.asg (.sub (.loc 7) (.ix (.loc 2) (.cst (.int (1))))) (.tup (.cons (.bi .len (.cons (.loc 6) .nil)) (.cons (.ix (.loc 2) (.cst (.int (2)))) .nil))))
      .nil))
    (.cons (.asg (.nm 5) (.catM (.loc 5) (.bin .mul (.lst false (.cons (.tup (.cons (.ix (.loc 2) (.cst (.int (3)))) (.cons (.ix (.loc 2) (.cst (.int (4)))) .nil))) .nil)) (.bi .max2 (.cons (.cst (.int (1))) (.cons (.ix (.loc 2) (.cst (.int (2)))) .nil))))))
    (.cons (.asg (.nm 6) (.catM (.loc 6) (.bin .mul (.lst false (.cons (.ix (.loc 2) (.cst (.int (5)))) .nil)) (.bi .max2 (.cons (.cst (.int (1))) (.cons (.ix (.loc 2) (.cst (.int (2)))) .nil))))))
    .nil)))) r) [some d, a1, o2, a3, some (.lst (hdsF m n)), some (.hd R), some (.hd F), o7, a8, a9, a10, a11, a12] K S := by
  obtain ⟨n1, n2, n3⟩ := h.names
  obtain ⟨rfl, _, _, _⟩ := h
  refine b_for ?_
  refine wi_seqT (xs := vs.map VR.d) ?_
  simp
  refine wp_for_st (fun i σ S' => ∃ o2 o7 R F, σ = [some (.tup [.str ("program" : Str), .tup (vs.map VR.d), .tup chs, .tup procs]), a1, o2, a3, some (.lst (hdsF m n)), some (.hd R), some (.hd F), o7, a8, a9, a10, a11, a12] ∧ S.length ≤ S'.length ∧ m + n ≤ R ∧ m + n ≤ F ∧
    S'[R]? = some (.lst (rngV (vs.take i))) ∧ S'[F]? = some (.lst (fstV (vs.take i))) ∧ (∀ i', i' < n → S'[m + i']? = some (.dk (glo 0 (vs.take i)))) ∧ (∀ i o, (i < m ∨ m + n ≤ i) → S[i]? = some o → S'[i]? = some o))
    ⟨o2, o7, R, F, rfl, Nat.le_refl _, hRo, hFo, hR, hF, hc, fun i o _ e => e⟩ ?_ ?_
  · rintro i x σ S1 hx ⟨o2, o7, R, F, rfl, l1, hR, hF, f1, f2, f3, f4⟩
    rw [List.getElem?_map] at hx
    obtain ⟨v, hv, rfl⟩ := Option.map_eq_some_iff.mp hx
    have hvm := List.mem_of_getElem? hv
    have hw : ∀ u ∈ vs.take i, wid u ≤ 2 := fun u hu => (n3 u (List.mem_of_mem_take hu)).2
    have lt : (vs.take i).length ≤ 3 := by rw [List.length_take]; omega
    have q1 := fstV_len hw
    have q2 := rngV_len hw
    have hnn : v.nm ∉ (vs.take i).map VR.nm := fun z => by
      rw [← List.take_append_drop i vs, List.map_append] at n1
      have := (List.nodup_append.mp n1).2.2 _ z v.nm (by
        rw [List.drop_eq_getElem_cons (List.getElem?_eq_some_iff.mp hv).1, (List.getElem?_eq_some_iff.mp hv).2, List.map_cons]
        exact List.mem_cons_self)
      exact this rfl
    refine t_nm ?_
    show wpB (envOf (g fuel) k) _ _ (fun f σ S => Turn1 (f, σ) S _ _) S1
    generalize hK : (fun f σ S => Turn1 (f, σ) S _ _ : K2) = K'
    refine told_put (m := m) (n := n) (f := F) (v := v) (kvs := glo 0 (vs.take i)) (big (by rw [glo_len]; omega)) f2 (.inr hF) f3 fun S2 o7 l2 c2 k2 => ?_
    rw [glo_put hnn] at c2
    refine told_cat (v := v) (R := R) (x := .tup [.int 0, .int v.hi]) (xs := rngV (vs.take i)) (n3 v hvm).2 (hs v hvm) rfl rfl (k2 _ _ (.inr hR) f1) (by omega) ?_ ?_
    · have e3 : ixP S2 v.d (.int 3) = some (.int 0) := rfl
      have e4 : ixP S2 v.d (.int 4) = some (.int v.hi) := rfl
      simp [pu, puEs, e3, e4, sl1, sl2]
    refine told_cat (v := v) (R := F) (x := .int v.first) (xs := fstV (vs.take i)) (n3 v hvm).2 (hs v hvm) rfl rfl (get_push (k2 _ _ (.inr hF) f2)) (by omega) ?_ ?_
    · have e3 : ∀ T : Sto, ixP T v.d (.int 5) = some (.int v.first) := fun _ => rfl
      simp [pu, puEs, e3, sl1]
    refine b_nil ?_
    rw [← hK]
    have e5 : vs.take (i + 1) = vs.take i ++ [v] := take_snoc hv
    have eR : rngV [v] = List.replicate (wid v) (.tup [.int 0, .int v.hi]) := by simp [rngV]
    have eF : fstV [v] = List.replicate (wid v) (.int v.first) := by simp [fstV]
    have hlt := lt_of_get f1
    refine ⟨_, _, _, _, rfl, by simp; omega, ?_, ?_, ?_, ?_, ?_, ?_⟩
    · omega
    · simp; omega
    · rw [e5, rngV_app, eR]; exact get_push get_new
    · rw [e5, fstV_app, eF]; exact get_new
    · intro i' hi'
      rw [e5]
      exact get_push (get_push (c2 i' hi'))
    · intro j o hj e
      exact get_push (get_push (k2 j o hj (f4 j o hj e)))
  · rintro σ S1 ⟨o2, o7, R, F, rfl, l1, hR, hF, f1, f2, f3, f4⟩
    rw [List.length_map, List.take_length] at f1 f2 f3
    exact then_nx (q S1 o2 o7 R F l1 hR hF f1 f2 f3 f4)
end K25
set_option Elab.async false
set_option linter.all false
set_option maxRecDepth 100000
set_option maxHeartbeats 1000000
namespace Mp
open PySem L2
/-- a loop over nothing, a loop over one -/
theorem wp_for_nil {fuel : Nat} {t : D → Sl → M Sl} {b : Sl → M (Fl × Sl)} {Q : Fl × Sl → Sto → Prop} {σ : Sl} {S : Sto} (h : Q (.nx, σ) S) : wp (atCap (.st []) fuel fun k => loopF (.st []) t b k 0 σ) Q S :=
  wp_for_st (fun _ σ' S' => σ' = σ ∧ S' = S) ⟨rfl, rfl⟩ (fun i d σ' S' e _ => by simp at e) fun σ' S' hh => by obtain ⟨rfl, rfl⟩ := hh; exact h
theorem wp_for_one {d : D} {fuel : Nat} {t : D → Sl → M Sl} {b : Sl → M (Fl × Sl)} {Q : Fl × Sl → Sto → Prop} {σ : Sl} {S : Sto} (h : wp (t d σ) (fun σ1 S1 => wp (b σ1) (fun r S2 => Turn1 r S2 (fun σ S => Q (.nx, σ) S) Q) S1) S) : wp (atCap (.st [d]) fuel fun k => loopF (.st [d]) t b k 0 σ) Q S :=
  wp_for_st (fun i σ' S' => match i with
    | 0 => σ' = σ ∧ S' = S
    | 1 => Q (.nx, σ') S'
    | _ => True) ⟨rfl, rfl⟩ (fun i d' σ' S' e hh => by
      match i with
      | 0 =>
        obtain ⟨rfl, rfl⟩ := hh
        cases e
        exact h
      | i + 1 => simp at e) fun σ' S' hh => hh
end Mp
namespace K25
open PySem Mp L2
/-- the own variable's row in a hand's cell, at a place -/
def ownK (procs : List D) (h : D) (base : Nat) (w : D → D) : List (Key × D) := (ownH procs h).map fun v => (.inr (nmD v), w (.int (base : Nat)))
/-- where the own variables of the i-th hand begin -/
def baseH (vs : List VR) (procs hs : List D) (i : Nat) : Nat := (fstV vs ++ fstH procs (hs.take i)).length
def wT (p : D) : D := .tup [p, .int 0]
/-- the cell of the i-th hand -/
def cellF (vs : List VR) (procs hs : List D) (i : Nat) : List (Key × D) := glo 0 vs ++ ownK procs (hs.getD i .non) (baseH vs procs hs i) wT
theorem own_hand {d : D} {vs : List VR} {chs procs : List D} (h : Pr4 d vs chs procs) {x : D} (hx : x ∈ handsF 0 procs) : ∃ (j k : Nat) (p : D) (nm : Str) (cp : Int) (own body : List D), x = .tup [.int (j : Nat), .int (k : Nat)] ∧ procs[j]? = some p ∧ PrG nm cp p own body ∧ ownH procs x = own ∧ (own = [] ∨ ∃ i : Int, own = [Var "v" 0 1 i]) := by
  obtain ⟨i, k, p, rfl, h2, _⟩ := handsF_mem hx
  obtain ⟨nm, cp, own, body, hp, c1, c2⟩ := h.procs.2 p (List.mem_of_getElem? h2)
  refine ⟨i, k, p, nm, cp, own, body, by rw [Nat.zero_add], h2, hp, ?_, hp.own_⟩
  obtain ⟨rfl, ho, _, _⟩ := hp
  simp [ownH, h2, ownD]
theorem fstH_app {procs a b : List D} : fstH procs (a ++ b) = fstH procs a ++ fstH procs b := List.flatMap_append
theorem rngH_app {procs a b : List D} : rngH procs (a ++ b) = rngH procs a ++ rngH procs b := List.flatMap_append
theorem handsN {d : D} {vs : List VR} {chs procs : List D} (h : Pr4 d vs chs procs) : (handsF 0 procs).length ≤ 4 := by
  obtain ⟨hl, hp⟩ := h.procs
  have := handsF_len (j := 0) (ps := procs) fun p hm => by
    obtain ⟨nm, cp, own, body, ⟨rfl, _, _, _⟩, c1, c2⟩ := hp p hm
    show cp.toNat ≤ 2
    omega
  omega
theorem fstH_len {d : D} {vs : List VR} {chs procs : List D} (h : Pr4 d vs chs procs) {i : Nat} : (fstH procs ((handsF 0 procs).take i)).length ≤ 4 ∧ (rngH procs ((handsF 0 procs).take i)).length ≤ 4 := by
  have hn := handsN h
  have l1 : ((handsF 0 procs).take i).length ≤ 4 := by rw [List.length_take]; omega
  have f1 := flat_le (xs := (handsF 0 procs).take i) (f := fun h => (ownH procs h).map fstO) (c := 1) fun x hx => by
    obtain ⟨j, k, p, nm, cp, own, body, rfl, _, _, e, ho⟩ := own_hand h (List.mem_of_mem_take hx)
    rw [e]
    rcases ho with rfl | ⟨i, rfl⟩ <;> simp
  have f2 := flat_le (xs := (handsF 0 procs).take i) (f := fun h => (ownH procs h).map rngO) (c := 1) fun x hx => by
    obtain ⟨j, k, p, nm, cp, own, body, rfl, _, _, e, ho⟩ := own_hand h (List.mem_of_mem_take hx)
    rw [e]
    rcases ho with rfl | ⟨i, rfl⟩ <;> simp
  unfold fstH rngH
  omega
theorem glo_v {d : D} {vs : List VR} {chs procs : List D} (h : Pr4 d vs chs procs) : ((glo 0 vs).any fun kv => decide (kv.1 = (.inr "v" : Key))) = false :=
  glo_any fun z => by
    obtain ⟨v, hv, e⟩ := List.mem_map.mp z
    exact (h.names.2.2 v hv).1 e
/-- told: the hands' own variables -/
theorem told_own {k : Nat} {d : D} {vs : List VR} {chs procs : List D} {S : Sto} {r : Ss} {K : K2} {m n R F : Nat} {o2 a3 a7 o8 a9 a10 a11 a12 : Option D} (h : Pr4 d vs chs procs) (hn : n = (handsF 0 procs).length + 1) (hRF : R ≠ F)
    (hR : S[R]? = some (.lst (rngV vs))) (hF : S[F]? = some (.lst (fstV vs))) (hRo : m + n ≤ R) (hFo : m + n ≤ F) (hc : ∀ i, i < n → S[m + i]? = some (.dk (glo 0 vs)))
    (q : ∀ S' o2 o3 o8 o12, S.length ≤ S'.length → S'[R]? = some (.lst (rngV vs ++ rngH procs (handsF 0 procs))) → S'[F]? = some (.lst (fstV vs ++ fstH procs (handsF 0 procs))) → (∀ i, i < n → S'[m + i]? = some (.dk (cellF vs procs (handsF 0 procs) i))) → (∀ i o, i < m → S[i]? = some o → S'[i]? = some o) →
      wpB (envOf (g fuel) k) r [some d, some (.lst (handsF 0 procs)), o2, o3, some (.lst (hdsF m n)), some (.hd R), some (.hd F), a7, o8, a9, a10, a11, o12] K S') :
    wpB (envOf (g fuel) k) (.cons (.for_ (.tp (.cons (.nm 8) (.cons (.tp (.cons (.nm 3) (.cons (.nm 12) .nil))) .nil))) (.enum (.loc 1))
    (.cons (.for_ (.nm 2) (.seq (.ix (.ix (.ix (.loc 0) (.cst (.int (3)))) (.loc 3)) (.cst (.int (3)))))
      (.cons (.asg (.sub (.ix (.loc 4) (.loc 8)) (.ix (.loc 2) (.cst (.int (1))))) (.tup (.cons (.bi .len (.cons (.loc 6) .nil)) (.cons (.cst (.int (0))) .nil))))
      (.cons (.ex (.bm .append (.loc 5) (.cons (.tup (.cons (.ix (.loc 2) (.cst (.int (3)))) (.cons (.ix (.loc 2) (.cst (.int (4)))) .nil))) .nil)))
      (.cons (.ex (.bm .append (.loc 6) (.cons (.ix (.loc 2) (.cst (.int (5)))) .nil)))
      .nil))))
    .nil)) r) [some d, some (.lst (handsF 0 procs)), o2, a3, some (.lst (hdsF m n)), some (.hd R), some (.hd F), a7, o8, a9, a10, a11, a12] K S := by
  have hP := h
  obtain ⟨n1, n2, n3⟩ := h.names
  have hnn := handsN h
  have fv := fstV_len fun v hv => (n3 v hv).2
  have rv := rngV_len fun v hv => (n3 v hv).2
  have gv := glo_v h
  have gl := glo_len (n := 0) (vs := vs)
  obtain ⟨rfl, _, _, _⟩ := h
  refine b_for ?_
  refine wi_enT (xs := handsF 0 procs) ?_
  simp
  refine wp_for_en (fun i σ S' => ∃ o2 o3 o8 o12, σ = [some (.tup [.str ("program" : Str), .tup (vs.map VR.d), .tup chs, .tup procs]), some (.lst (handsF 0 procs)), o2, o3, some (.lst (hdsF m n)), some (.hd R), some (.hd F), a7, o8, a9, a10, a11, o12] ∧ S.length ≤ S'.length ∧
    S'[R]? = some (.lst (rngV vs ++ rngH procs ((handsF 0 procs).take i))) ∧ S'[F]? = some (.lst (fstV vs ++ fstH procs ((handsF 0 procs).take i))) ∧ (∀ j, j < i → S'[m + j]? = some (.dk (cellF vs procs (handsF 0 procs) j))) ∧ (∀ j, i ≤ j → j < n → S'[m + j]? = some (.dk (glo 0 vs))) ∧ (∀ i o, i < m → S[i]? = some o → S'[i]? = some o))
    ⟨o2, a3, o8, a12, rfl, Nat.le_refl _, by simpa [rngH] using hR, by simpa [fstH] using hF, fun j hj => absurd hj (Nat.not_lt_zero _), fun j _ hj => hc j hj, fun i o _ e => e⟩ ?_ ?_
  · rintro i x σ S1 hx ⟨o2, o3, o8, o12, rfl, l1, f1, f2, f3, f4, f5⟩
    have hil := (List.getElem?_eq_some_iff.mp hx).1
    obtain ⟨fl, rl⟩ := fstH_len hP (i := i)
    obtain ⟨j, k', p, nm, cp, own, body, rfl, hj, hpg, eo, ho⟩ := own_hand hP (List.mem_of_getElem? hx)
    have ec := f4 i (Nat.le_refl _) (by omega)
    have eg : (handsF 0 procs).getD i .non = .tup [.int (j : Nat), .int (k' : Nat)] := by rw [List.getD_eq_getElem?_getD, hx]; rfl
    simp only [evT, evTs, wp_bind, wp_pure]
    show wpB (envOf (g fuel) k) _ _ (fun f σ S => Turn1 (f, σ) S _ _) S1
    have nxt : ∀ (o2 : Option D) (S' : Sto), S.length ≤ S'.length → S'[R]? = some (.lst (rngV vs ++ rngH procs ((handsF 0 procs).take i) ++ own.map rngO)) → S'[F]? = some (.lst (fstV vs ++ fstH procs ((handsF 0 procs).take i) ++ own.map fstO)) →
        S'[m + i]? = some (.dk (glo 0 vs ++ own.map fun v => (.inr (nmD v), wT (.int (baseH vs procs (handsF 0 procs) i : Nat))))) → (∀ u o, u ≠ R → u ≠ F → u ≠ m + i → S1[u]? = some o → S'[u]? = some o) → (fun σ S' => ∃ o2 o3 o8 o12, σ = [some (.tup [.str ("program" : Str), .tup (vs.map VR.d), .tup chs, .tup procs]), some (.lst (handsF 0 procs)), o2, o3, some (.lst (hdsF m n)), some (.hd R), some (.hd F), a7, o8, a9, a10, a11, o12] ∧ S.length ≤ S'.length ∧
    S'[R]? = some (.lst (rngV vs ++ rngH procs ((handsF 0 procs).take (i + 1)))) ∧ S'[F]? = some (.lst (fstV vs ++ fstH procs ((handsF 0 procs).take (i + 1)))) ∧ (∀ j, j < (i + 1) → S'[m + j]? = some (.dk (cellF vs procs (handsF 0 procs) j))) ∧ (∀ j, (i + 1) ≤ j → j < n → S'[m + j]? = some (.dk (glo 0 vs))) ∧ (∀ i o, i < m → S[i]? = some o → S'[i]? = some o))
        [some (.tup [.str ("program" : Str), .tup (vs.map VR.d), .tup chs, .tup procs]), some (.lst (handsF 0 procs)), o2, some (.int (j : Nat)), some (.lst (hdsF m n)), some (.hd R), some (.hd F), a7, some (.int (i : Nat)), a9, a10, a11, some (.int (k' : Nat))] S' := fun o2 S' a1 a2 a3 a4 a5 => by
      have t1 : rngH procs [.tup [.int (j : Nat), .int (k' : Nat)]] = own.map rngO := by
        show List.flatMap _ _ = _
        rw [List.flatMap_cons, eo]; simp
      have t2 : fstH procs [.tup [.int (j : Nat), .int (k' : Nat)]] = own.map fstO := by
        show List.flatMap _ _ = _
        rw [List.flatMap_cons, eo]; simp
      refine ⟨_, _, _, _, rfl, a1, by rw [take_snoc hx, rngH_app, t1, ← List.append_assoc]; exact a2, by rw [take_snoc hx, fstH_app, t2, ← List.append_assoc]; exact a3, fun u hu => ?_, fun u hu hun => a5 _ _ (by omega) (by omega) (by omega) (f4 u (by omega) hun), fun u o hu e => a5 _ _ (by omega) (by omega) (by omega) (f5 u o hu e)⟩
      by_cases hui : u = i
      · subst hui
        rw [a4]
        unfold cellF ownK
        rw [eg, eo]
      · exact a5 _ _ (by omega) (by omega) (by omega) (f3 u (by omega))
    generalize hK : (fun f σ S => Turn1 (f, σ) S _ _ : K2) = K'
    have nxt' : ∀ (o2 : Option D) (S' : Sto), S.length ≤ S'.length → S'[R]? = some (.lst (rngV vs ++ rngH procs ((handsF 0 procs).take i) ++ own.map rngO)) → S'[F]? = some (.lst (fstV vs ++ fstH procs ((handsF 0 procs).take i) ++ own.map fstO)) →
        S'[m + i]? = some (.dk (glo 0 vs ++ own.map fun v => (.inr (nmD v), wT (.int (baseH vs procs (handsF 0 procs) i : Nat))))) → (∀ u o, u ≠ R → u ≠ F → u ≠ m + i → S1[u]? = some o → S'[u]? = some o) → K' .nx [some (.tup [.str ("program" : Str), .tup (vs.map VR.d), .tup chs, .tup procs]), some (.lst (handsF 0 procs)), o2, some (.int (j : Nat)), some (.lst (hdsF m n)), some (.hd R), some (.hd F), a7, some (.int (i : Nat)), a9, a10, a11, some (.int (k' : Nat))] S' := fun o2 S' a1 a2 a3 a4 a5 => by
      rw [← hK]
      exact nxt o2 S' a1 a2 a3 a4 a5
    clear hK nxt
    have e1 : atI procs ((j : Nat) : Int) = some p := L2.atI_nat hj
    obtain ⟨rfl, _, _, _⟩ := hpg
    refine b_for ?_
    refine wi_seqT (xs := own) ?_
    have s1 : pu (.ix (.ix (.ix (.loc 0) (.cst (.int (3)))) (.loc 3)) (.cst (.int (3)))) [some (.tup [.str ("program" : Str), .tup (vs.map VR.d), .tup chs, .tup procs]), some (.lst (handsF 0 procs)), o2, some (.int (j : Nat)), some (.lst (hdsF m n)), some (.hd R), some (.hd F), a7, some (.int (0 + i : Nat)), a9, a10, a11, some (.int (k' : Nat))] S1 = some (.tup own) := by
      simp [pu, e1]
    rw [Nat.zero_add] at s1
    refine wp_pu s1 ⟨.inl rfl, ?_⟩
    rcases ho with rfl | ⟨v, rfl⟩
    · exact wp_for_nil (b_nil (nxt' _ _ l1 (by simpa using f1) (by simpa using f2) (by simpa using ec) fun u o _ _ _ e => e))
    · refine wp_for_one (t_nm ?_)
      show wpB (envOf (g fuel) k) _ _ (fun f σ S => Turn1 (f, σ) S _ _) S1
      have hbig : (fstV vs ++ fstH procs ((handsF 0 procs).take i)).length < sizeLine := big (by rw [List.length_append]; omega)
      have hbig2 : (rngV vs ++ rngH procs ((handsF 0 procs).take i)).length < sizeLine := big (by rw [List.length_append]; omega)
      have hhd : atI (hdsF m n) (i : Int) = some (.hd (m + i)) := L2.atI_nat (by
        unfold hdsF
        rw [List.getElem?_map, List.getElem?_range (by omega)]
        rfl)
      have ep : putD (glo 0 vs) (.inr ("v" : Str)) (wT (.int (baseH vs procs (handsF 0 procs) i : Nat))) = glo 0 vs ++ [(.inr ("v" : Str), wT (.int (baseH vs procs (handsF 0 procs) i : Nat)))] := by
        rw [putD, if_neg (by rw [gv]; exact Bool.false_ne_true)]
      have c1 : m + i ≠ F := by omega
      have c2 : m + i ≠ R := by omega
      refine b_sub (wT (.int (baseH vs procs (handsF 0 procs) i : Nat))) (.hd (m + i)) (.str "v") (S1.set (m + i) (.dk (glo 0 vs ++ [(.inr ("v" : Str), wT (.int (baseH vs procs (handsF 0 procs) i : Nat)))]))) ?_ ?_ ?_ ?_ ?_
      · simp [pu, puEs, len_hd f2, sl2, wT, baseH]
      · simp [pu, hhd]
      · simp [pu, Var]
      · rw [set_dk ec rfl (big (by omega)), ep]
      have g1 := get_set_ne (o := .dk (glo 0 vs ++ [(.inr ("v" : Str), wT (.int (baseH vs procs (handsF 0 procs) i : Nat)))])) f1 c2
      have g2 := get_set_ne (o := .dk (glo 0 vs ++ [(.inr ("v" : Str), wT (.int (baseH vs procs (handsF 0 procs) i : Nat)))])) f2 c1
      have g3 := get_set (o' := .dk (glo 0 vs ++ [(.inr ("v" : Str), wT (.int (baseH vs procs (handsF 0 procs) i : Nat)))])) ec
      refine b_app (m := R) (.tup [.int 0, .int 1]) rfl g1 (by simp [pu, puEs, sl2, Var]) hbig2 ?_
      refine b_app (m := F) (.int v) rfl (get_set_ne g2 hRF) (by simp [pu, puEs, Var]) hbig (b_nil ?_)
      refine then_nx (b_nil ?_)
      refine nxt' _ _ (by simpa using l1) ?_ ?_ ?_ ?_
      · exact get_set_ne (get_set g1) (Ne.symm hRF)
      · exact get_set (get_set_ne g2 hRF)
      · exact get_set_ne (get_set_ne g3 (Ne.symm c2)) (Ne.symm c1)
      · intro u o u1 u2 u3 e
        exact get_set_ne (get_set_ne (get_set_ne e (Ne.symm u3)) (Ne.symm u1)) (Ne.symm u2)
  · rintro σ S1 ⟨o2, o3, o8, o12, rfl, l1, f1, f2, f3, f4, f5⟩
    rw [List.take_length] at f1 f2
    refine then_nx (q S1 _ _ _ _ l1 f1 f2 (fun i hi => ?_) f5)
    by_cases hi2 : i < (handsF 0 procs).length
    · exact f3 i hi2
    · rw [f4 i (by omega) hi]
      unfold cellF ownK
      rw [List.getD_eq_getElem?_getD, List.getElem?_eq_none (by omega)]
      simp [ownH]
end K25
set_option Elab.async false
set_option linter.all false
set_option maxRecDepth 100000
set_option maxHeartbeats 1000000
namespace K25
open PySem Mp L2
theorem atI_snoc {xs : List D} {x : D} : atI (xs ++ [x]) (-1) = some x := by
  unfold atI ixN
  have e : ((-1 : Int) + (xs ++ [x]).length).toNat = xs.length := by rw [List.length_append, List.length_singleton]; omega
  rw [if_neg (by omega), if_pos (by rw [List.length_append, List.length_singleton]; omega)]
  simp only [e, Option.bind_some]
  simp
/-- a process's body -/
def bodyL : D → List D
  | .tup [_, _, _, _, .tup b] => b
  | _ => []
/-- the rows of a process's statements and of their blocks -/
structure TRow (S : Sto) (lo : Nat) (p a b : D) : Prop where
  st : ∃ i, a = .hd i ∧ lo ≤ i ∧ S[i]? = some (.lst (allS 4 (bodyL p)))
  bl : ∃ i nh, b = .hd i ∧ lo ≤ i ∧ S[i]? = some (.lst nh) ∧ From lo nh ∧ Rows S nh (num 4 (bodyL p) 1).2.2
theorem TRow.keep {S S' : Sto} {lo : Nat} {p a b : D} (h : TRow S lo p a b) (k : ∀ i o, lo ≤ i → S[i]? = some o → S'[i]? = some o) : TRow S' lo p a b := by
  obtain ⟨⟨i, e1, h1, h2⟩, j, nh, e2, h3, h4, h5, h6⟩ := h
  exact ⟨⟨i, e1, h1, k _ _ h1 h2⟩, j, nh, e2, h3, k _ _ h3 h4, h5, h6.keep h5 k⟩
/-- .. of processes -/
inductive TRows (S : Sto) (lo : Nat) : List D → List D → List D → Prop
  | nil : TRows S lo [] [] []
  | snoc {ps as bs : List D} {p a b : D} : TRows S lo ps as bs → TRow S lo p a b → TRows S lo (ps ++ [p]) (as ++ [a]) (bs ++ [b])
theorem TRows.keep {S S' : Sto} {lo : Nat} {ps as bs : List D} (h : TRows S lo ps as bs) (k : ∀ i o, lo ≤ i → S[i]? = some o → S'[i]? = some o) : TRows S' lo ps as bs := by
  induction h with
  | nil => exact .nil
  | snoc _ t ih => exact .snoc ih (t.keep k)
theorem TRows.len {S : Sto} {lo : Nat} {ps as bs : List D} (h : TRows S lo ps as bs) : as.length = ps.length ∧ bs.length = ps.length := by
  induction h with
  | nil => exact ⟨rfl, rfl⟩
  | snoc _ t ih => simp [ih]
theorem TRows.get {S : Sto} {lo : Nat} {ps as bs : List D} (h : TRows S lo ps as bs) : ∀ {j : Nat} {p : D}, ps[j]? = some p → ∃ a b, as[j]? = some a ∧ bs[j]? = some b ∧ TRow S lo p a b := by
  induction h with
  | nil => intro j p e; simp at e
  | @snoc ps as bs p a b h t ih =>
    intro j q e
    obtain ⟨l1, l2⟩ := h.len
    by_cases hj : j < ps.length
    · rw [List.getElem?_append_left hj] at e
      obtain ⟨a', b', e1, e2, e3⟩ := ih e
      exact ⟨a', b', by rw [List.getElem?_append_left (by omega)]; exact e1, by rw [List.getElem?_append_left (by omega)]; exact e2, e3⟩
    · have hj2 : j = ps.length := by
        have := (List.getElem?_eq_some_iff.mp e).1
        rw [List.length_append, List.length_singleton] at this
        omega
      subst hj2
      rw [List.getElem?_append_right (Nat.le_refl _), Nat.sub_self] at e
      cases e
      refine ⟨a, b, ?_, ?_, t⟩
      · rw [← l1]; simp
      · rw [← l2]; simp
/-- told: the rows of statements, of blocks, and the bodies -/
theorem told_rows {k : Nat} {d : D} {vs : List VR} {chs procs : List D} {S : Sto} {r : Ss} {K : K2} {a1 o2 a3 a4 a5 a6 a7 a8 a9 a10 a11 a12 : Option D} (h : Pr4 d vs chs procs)
    (q : ∀ S' o2 A B C as bs, Ge S S' → S'[A]? = some (.lst as) → S'[B]? = some (.lst bs) → TRows S' (S.length + 3) procs as bs → S'[C]? = some (.lst (procs.map fun p => .tup (num 4 (bodyL p) 1).1)) →
      wpB (envOf (g fuel) (k + 5)) r [some d, a1, o2, a3, a4, a5, a6, a7, a8, some (.hd A), some (.hd B), some (.hd C), a12] K S') :
    wpB (envOf (g fuel) (k + 5)) (.cons (.par [9, 10, 11] (.cons (.lst true .nil) (.cons (.lst true .nil) (.cons (.lst true .nil) .nil))))
  (.cons (.for_ (.nm 2) (.seq (.ix (.loc 0) (.cst (.int (3)))))
    (.cons (.ex (.bm .append (.loc 9) (.cons (.lst true .nil) .nil)))
    (.cons (.ex (.bm .append (.loc 10) (.cons (.lst true .nil) .nil)))
    (.cons (.ex (.bm .append (.loc 11) (.cons (.bi .tuple (.cons (.ix (.call f_numbers (.cons (.ix (.loc 2) (.cst (.int (4)))) (.cons (.cst (.int (1))) (.cons (.ix (.loc 9) (.neg (.cst (.int (1))))) (.cons (.ix (.loc 10) (.neg (.cst (.int (1))))) .nil))))) (.cst (.int (0)))) .nil)) .nil)))
    .nil)))) r)) [some d, a1, o2, a3, a4, a5, a6, a7, a8, a9, a10, a11, a12] K S := by
  have hP := h
  obtain ⟨hl, hp⟩ := h.procs
  obtain ⟨rfl, _, _, _⟩ := h
  refine b_cons ?_
  show wp (evS _ (.par _ _) _) _ S
  simp only [evS, wp_bind]
  simp [setAll]
  refine then_nx ?_
  refine b_for ?_
  refine wi_seqT (xs := procs) ?_
  simp
  refine wp_for_st (fun i σ S' => ∃ o2 as bs, σ = [some (.tup [.str ("program" : Str), .tup (vs.map VR.d), .tup chs, .tup procs]), a1, o2, a3, a4, a5, a6, a7, a8, some (.hd S.length), some (.hd (S.length + 1)), some (.hd (S.length + 2)), a12] ∧ Ge S S' ∧ S.length + 3 ≤ S'.length ∧
    S'[S.length]? = some (.lst as) ∧ S'[S.length + 1]? = some (.lst bs) ∧ TRows S' (S.length + 3) (procs.take i) as bs ∧ S'[S.length + 2]? = some (.lst ((procs.take i).map fun p => .tup (num 4 (bodyL p) 1).1)))
    ⟨o2, [], [], rfl, ⟨by simp, fun i o e => by rw [List.getElem?_append_left (lt_of_get e)]; exact e⟩, by simp, ?_, ?_, .nil, ?_⟩ ?_ ?_
  · simp
  · simp
  · simp
  · rintro i x σ S1 hx ⟨o2, as, bs, rfl, ge, l1, f1, f2, f3, f4⟩
    have hil := (List.getElem?_eq_some_iff.mp hx).1
    have lt : (procs.take i).length ≤ 2 := by rw [List.length_take]; omega
    obtain ⟨la, lb⟩ := f3.len
    obtain ⟨nm, cp, own, body, ⟨rfl, _, bl, bg⟩, _, _⟩ := hp x (List.mem_of_getElem? hx)
    refine t_nm ?_
    show wpB (envOf (g fuel) (k + 5)) _ _ (fun f σ S => Turn1 (f, σ) S _ _) S1
    generalize hK : (fun f σ S => Turn1 (f, σ) S _ _ : K2) = K'
    refine b_appN (m := S.length) rfl f1 (big (by omega)) ?_
    have u1 : S.length < S1.length := by omega
    have b1 := get_set_ne (o := .lst (as ++ [.hd S1.length])) (get_push (o := Ob.lst []) f2) (by omega : S.length ≠ S.length + 1)
    have b2 := get_set_ne (o := .lst (as ++ [.hd S1.length])) (get_push (o := Ob.lst []) f4) (by omega : S.length ≠ S.length + 2)
    have b3 := get_set (o' := .lst (as ++ [.hd S1.length])) (get_push (o := Ob.lst []) f1)
    have b4 := get_set_ne (o := .lst (as ++ [.hd S1.length])) (get_new (S := S1) (o := Ob.lst [])) (by omega : S.length ≠ S1.length)
    have g2 : ∀ u o, u ≠ S.length → S1[u]? = some o → ((S1 ++ [Ob.lst []]).set S.length (.lst (as ++ [.hd S1.length])))[u]? = some o := fun u o hu e => get_set_ne (get_push e) (Ne.symm hu)
    have l2 : ((S1 ++ [Ob.lst []]).set S.length (.lst (as ++ [.hd S1.length]))).length = S1.length + 1 := by simp
    generalize hS2 : (S1 ++ [Ob.lst []]).set S.length (.lst (as ++ [.hd S1.length])) = S2 at *
    refine b_appN (m := S.length + 1) rfl b1 (big (by omega)) ?_
    have c1 := get_set_ne (o := .lst (bs ++ [.hd S2.length])) (get_push (o := Ob.lst []) b3) (by omega : S.length + 1 ≠ S.length)
    have c2 := get_set_ne (o := .lst (bs ++ [.hd S2.length])) (get_push (o := Ob.lst []) b2) (by omega : S.length + 1 ≠ S.length + 2)
    have c3 := get_set (o' := .lst (bs ++ [.hd S2.length])) (get_push (o := Ob.lst []) b1)
    have c4 := get_set_ne (o := .lst (bs ++ [.hd S2.length])) (get_push (o := Ob.lst []) b4) (by omega : S.length + 1 ≠ S1.length)
    have c5 := get_set_ne (o := .lst (bs ++ [.hd S2.length])) (get_new (S := S2) (o := Ob.lst [])) (by omega : S.length + 1 ≠ S2.length)
    have g3 : ∀ u o, u ≠ S.length + 1 → S2[u]? = some o → ((S2 ++ [Ob.lst []]).set (S.length + 1) (.lst (bs ++ [.hd S2.length])))[u]? = some o := fun u o hu e => get_set_ne (get_push e) (Ne.symm hu)
    have l3 : ((S2 ++ [Ob.lst []]).set (S.length + 1) (.lst (bs ++ [.hd S2.length]))).length = S1.length + 2 := by simp; omega
    generalize hS3 : (S2 ++ [Ob.lst []]).set (S.length + 1) (.lst (bs ++ [.hd S2.length])) = S3 at *
    clear hS2 hS3
    refine b_ex ?_
    simp
    refine ⟨⟨(), recv_hd c2⟩, ?_⟩
    have i1 : ixP S3 (.hd S.length) (.int (-1)) = some (.hd S1.length) := by rw [ix_hd c1]; exact atI_snoc
    have i2 : ixP S3 (.hd (S.length + 1)) (.int (-1)) = some (.hd S2.length) := by rw [ix_hd c3]; exact atI_snoc
    refine wp_pu (d := .int (-1)) (by simp [pu]) ⟨_, i1, ?_⟩
    refine wp_pu (d := .int (-1)) (by simp [pu]) ⟨_, i2, ?_⟩
    have hc := cnt_le (n := 4) (by decide)
    refine sp_numbers 4 k body (.tup body) _ _ [] [] S1.length S2.length 1 (.inl rfl) bl (fun y hy => (bg y hy).1) c4 c5 (by omega) (by simp; omega) (by simp; omega) rfl fun h S4 nh N hnh => ?_
    have st := N.st
    have bk := N.bl
    simp at st bk
    have hlt := lt_of_get N.fo
    have hge := N.ge
    have k1 := N.keep _ _ c1 (by omega) (by omega)
    have k2 := N.keep _ _ c2 (by omega) (by omega)
    have k3 := N.keep _ _ c3 (by omega) (by omega)
    refine ⟨.hd h, rfl, _, ⟨_, seq_hd N.fo, rfl⟩, .non, _, app_hd k2 (big (by simp; omega)), ?_⟩
    refine b_nil ?_
    rw [← hK]
    have e1 : procs.take (i + 1) = procs.take i ++ [.tup [.str ("process" : Str), .str nm, .int cp, .tup own, .tup body]] := take_snoc hx
    have g4 : ∀ u o, S.length + 3 ≤ u → u < S1.length → S1[u]? = some o → (S4.set (S.length + 2) (.lst (((procs.take i).map fun p => .tup (num 4 (bodyL p) 1).1) ++ [.tup (num 4 body 1).1])))[u]? = some o := fun u o hu hl e =>
      get_set_ne (N.keep _ _ (g3 _ _ (by omega) (g2 _ _ (by omega) e)) (by omega) (by omega)) (by omega)
    refine ⟨_, _, _, rfl, ⟨?_, fun u o e => ?_⟩, ?_, get_set_ne k1 (by omega), get_set_ne k3 (by omega), ?_, ?_⟩
    · simp; omega
    · have hu := lt_of_get e
      exact get_set_ne (N.keep _ _ (g3 _ _ (by omega) (g2 _ _ (by omega) (ge.2 _ _ e))) (by omega) (by omega)) (by omega)
    · simp; omega
    · rw [e1]
      refine .snoc (f3.keep fun u o hu e => g4 u o hu (lt_of_get e) e) ⟨⟨S1.length, rfl, by omega, get_set_ne st (by omega)⟩, S2.length, nh, rfl, by omega, get_set_ne bk (by omega), fun x hx => ?_, ?_⟩
      · obtain ⟨i, e, hi⟩ := N.fr x hx
        exact ⟨i, e, by omega⟩
      · exact N.rw.keep N.fr fun u o hu e => get_set_ne e (by omega)
    · rw [e1, List.map_append]
      exact get_set k2
  · rintro σ S1 ⟨o2, as, bs, rfl, ge, l1, f1, f2, f3, f4⟩
    rw [List.take_length] at f3 f4
    exact then_nx (q S1 _ _ _ _ as bs ge f1 f2 f3 f4)
end K25
set_option Elab.async false
set_option linter.all false
set_option maxRecDepth 100000
set_option maxHeartbeats 1000000
namespace K25
open PySem Mp L2
/-- what told gives -/
structure ToldR (S : Sto) (d : D) (vs : List VR) (procs : List D) (m R A B C lo : Nat) (as bs : List D) (t : D) : Prop where
  eq : t = .lst [d, .lst (handsF 0 procs), .lst (hdsF m ((handsF 0 procs).length + 1)), .hd R, .tup (fstV vs ++ fstH procs (handsF 0 procs)), .hd A, .hd B, .hd C]
  cells : ∀ i, i < (handsF 0 procs).length + 1 → S[m + i]? = some (.dk (cellF vs procs (handsF 0 procs) i))
  rng : S[R]? = some (.lst (rngV vs ++ rngH procs (handsF 0 procs)))
  st : S[A]? = some (.lst as)
  bl : S[B]? = some (.lst bs)
  rows : TRows S lo procs as bs
  bd : S[C]? = some (.lst (procs.map fun p => .tup (num 4 (bodyL p) 1).1))
theorem ToldR.ge {S S' : Sto} {d : D} {vs : List VR} {procs : List D} {m R A B C lo : Nat} {as bs : List D} {t : D} (h : ToldR S d vs procs m R A B C lo as bs t) (g : Ge S S') : ToldR S' d vs procs m R A B C lo as bs t :=
  ⟨h.eq, fun i hi => g.2 _ _ (h.cells i hi), g.2 _ _ h.rng, g.2 _ _ h.st, g.2 _ _ h.bl, h.rows.keep fun i o _ e => g.2 i o e, g.2 _ _ h.bd⟩
theorem Pr4.sizes {d : D} {vs : List VR} {chs procs : List D} (h : Pr4 d vs chs procs) : ∀ v ∈ vs, v.size = 0 ∨ v.size = 2 := by
  obtain ⟨hi, ys, ts, rfl, hy, ht⟩ := h.vars
  intro v hv
  rcases hy with rfl | ⟨i, rfl⟩ <;> rcases ht with rfl | rfl <;> simp at hv <;> (try rcases hv with rfl | rfl | rfl) <;> (try rcases hv with rfl | rfl) <;> (try subst hv) <;> first | exact .inl rfl | exact .inr rfl
theorem sp_told {k : Nat} {d : D} {vs : List VR} {chs procs : List D} {S : Sto} {Q : D → Sto → Prop} (h : Pr4 d vs chs procs)
    (q : ∀ S' t m R A B C lo as bs, Ge S S' → ToldR S' d vs procs m R A B C lo as bs t → Q t S') : wp (run (g fuel) (k + 6) f_told [d]) Q S := by
  refine wp_run fn_told rfl ?_
  show wpB (envOf (g fuel) (k + 5)) b_told [some d, none, none, none, none, none, none, none, none, none, none, none, none] (fun f _ S' => match f with
    | .rt d => Q d S'
    | .nx => Q .non S'
    | _ => False) S
  have hs : ∀ v ∈ vs, v.size < 2 ^ 62 := fun v hv => by
    rcases h.sizes v hv with e | e <;> rw [e] <;> decide
  have hh := handsN h
  refine b_new ?_
  refine told_hands h get_new fun o2 o3 o12 => ?_
  refine told_par (by omega) ?_
  have hl : (S ++ [Ob.lst []]).length = S.length + 1 := by simp
  generalize hS1 : S ++ [Ob.lst []] = S1 at *
  generalize hn : (handsF 0 procs).length + 1 = n at *
  have e0 : S1 ++ List.replicate n (Ob.dk []) ++ [Ob.lst []] ++ [Ob.lst []] = S1 ++ (List.replicate n (Ob.dk []) ++ [Ob.lst [], Ob.lst []]) := by simp
  have ea : S1.length + (handsF 0 procs).length + 1 = S1.length + n := by omega
  have eb : S1.length + (handsF 0 procs).length + 2 = S1.length + n + 1 := by omega
  rw [ea, eb]
  refine told_vars (m := S1.length) (n := n) h hs ?_ ?_ (by omega) (by omega) (fun i hi => ?_) fun S2 o2 o7 R F l2 hRo hFo f1 f2 f3 f4 => ?_
  · rw [e0, List.getElem?_append_right (by omega), List.getElem?_append_right (by simp)]
    simp
  · rw [e0, List.getElem?_append_right (by omega), List.getElem?_append_right (by simp; omega)]
    simp
    have : S1.length + n + 1 - S1.length - n = 1 := by omega
    rw [this]
    rfl
  · rw [e0, List.getElem?_append_right (by omega), List.getElem?_append_left (by simp; omega)]
    rw [List.getElem?_replicate]
    rw [if_pos (by omega)]
  · have hRF : R ≠ F := by
      intro e
      subst e
      rw [f1] at f2
      obtain ⟨hi, ys, ts, rfl, hy, ht⟩ := h.vars
      have := Ob.lst.inj (Option.some.inj f2)
      simp [rngV, fstV, wid] at this
    refine told_own h hn.symm hRF f1 f2 hRo hFo f3 fun S3 o2 o3 o8 o12 l3 k1 k2 k3 k4 => ?_
    refine told_rows (k := k) h fun S4 o2 A B C as bs g4 q1 q2 q3 q4 => ?_
    have geA : Ge S S4 := by
      have g3 : ∀ (i : Nat) (o : Ob), S[i]? = some o → S3[i]? = some o := fun i o e => by
        have hi := lt_of_get e
        have e1 : S1[i]? = some o := by rw [← hS1]; exact get_push e
        refine k4 i o (by omega) (f4 i o (.inl (by omega)) ?_)
        rw [e0, List.getElem?_append_left (by omega)]
        exact e1
      refine ⟨?_, fun i o e => g4.2 i o (g3 i o e)⟩
      have h1 := g4.1
      have h2 : S1.length ≤ S2.length := by
        have := l2
        rw [e0, List.length_append] at this
        omega
      omega
    have t2 := g4.2 _ _ k2
    refine b_retP (.lst [d, .lst (handsF 0 procs), .lst (hdsF S1.length n), .hd R, .tup (fstV vs ++ fstH procs (handsF 0 procs)), .hd A, .hd B, .hd C]) ?_ (q S4 _ S1.length R A B C _ as bs geA ⟨by rw [hn], fun i hi => g4.2 _ _ (k3 i (by omega)), g4.2 _ _ k1, q1, q2, q3, q4⟩)
    simp [pu, puEs, seq_hd t2, slen]
end K25
set_option Elab.async false
set_option linter.all false
set_option maxRecDepth 100000
set_option maxHeartbeats 1000000
namespace Mp
open PySem L2
/-! ### objects with fields: names beside values -/
theorem zip_look {f : Str} {d : D} : ∀ {names : List Str} {vs : List D} {i : Nat}, names.findIdx (fun x => decide (x = f)) = i → names.length = vs.length → vs[i]? = some d → (names.zip vs).lookup f = some d
  | [], vs, i, h, hl, hd => by
    cases vs with
    | nil => simp at hd
    | cons _ _ => simp at hl
  | x :: r, [], i, h, hl, hd => by simp at hl
  | x :: r, v :: vs, i, h, hl, hd => by
    rw [List.findIdx_cons] at h
    by_cases hx : x = f
    · subst hx
      simp at h
      subst h
      simp at hd
      subst hd
      simp [List.lookup]
    · rw [decide_eq_false hx] at h
      simp at h
      subst h
      rw [List.zip_cons_cons, List.lookup_cons]
      have : (f == x) = false := by simpa using Ne.symm hx
      rw [this]
      exact zip_look rfl (by simpa using hl) (by simpa using hd)
theorem put_new_fld {f : Str} {v : D} : ∀ {names : List Str} {vs : List D}, f ∉ names → names.length = vs.length → putFD f v (names.zip vs) = (names ++ [f]).zip (vs ++ [v])
  | [], [], _, _ => rfl
  | [], _ :: _, _, h => by simp at h
  | _ :: _, [], _, h => by simp at h
  | x :: r, u :: vs, hn, hl => by
    simp only [List.mem_cons, not_or] at hn
    simp only [List.zip_cons_cons, putFD, List.cons_append]
    rw [if_neg (Ne.symm hn.1), put_new_fld hn.2 (by simpa using hl)]
section
variable {S : Sto} {n C i : Nat} {names : List Str} {vs : List D} {f : Str} {d v : D}
theorem fld_at (i : Nat) (h : S[n]? = some (.ins C (names.zip vs))) (hi : names.findIdx (fun x => decide (x = f)) = i) (hl : names.length = vs.length) (hd : vs[i]? = some d) : fldP S (.hd n) f = some d := by
  simp only [fldP, h]
  exact zip_look hi hl hd
theorem setF_new (h : S[n]? = some (.ins C (names.zip vs))) (hf : f ∉ names) (hl : names.length = vs.length) (h9 : names.length < 1000) : setF S (.hd n) f v = some (S.set n (.ins C ((names ++ [f]).zip (vs ++ [v])))) := by
  simp only [setF, h]
  rw [if_pos (by rw [List.length_zip]; omega), put_new_fld hf hl]
theorem t_fld {P : En} {σ : Sl} {o : E} {x : D} {S' : Sto} {Q : Sl → Sto → Prop} (h1 : pu o σ S = some x) (h3 : setF S x f d = some S') (h : Q σ S') : wp (evT P (.fld o f) d σ) Q S := by
  simp only [evT]
  rw [wp_bind]
  refine wp_pu h1 ?_
  rw [wp_bind, wp_stp]
  exact ⟨S', h3, wp_pure.mpr h⟩
@[simp] theorem we_neg {P : En} {σ : Sl} {a : E} {Q : D → Sto → Prop} : wp (evE P (.neg a) σ) Q S ↔ wp (evE P a σ) (fun x S1 => ∃ i, x = .int i ∧ Q (.int (-i)) S1) S := by
  simp only [evE, wp_bind]
  constructor
  · rintro ⟨x, S1, e, h⟩
    refine ⟨x, S1, e, ?_⟩
    cases x <;> simp at h
    exact ⟨_, rfl, h⟩
  · rintro ⟨x, S1, e, i, rfl, h⟩
    exact ⟨_, S1, e, by simpa using h⟩
theorem we_dictT {P : En} {σ : Sl} {a : E} {Q : D → Sto → Prop} : wp (evE P (.dictOf true a) σ) Q S ↔ wp (evE P a σ) (fun x S1 => ∃ kvs, (lstOf S1 x).bind pairsOf = some kvs ∧ Q (.hd S1.length) (S1 ++ [.dk (mergeD [] kvs)])) S := by
  simp [evE]
/-- a new object -/
theorem we_new {P : En} {σ : Sl} {C f : Nat} {es : Es} {Q : D → Sto → Prop} (hf : P.ini C = some f) : wp (evE P (.new C es) σ) Q S ↔ wp (evEs P es σ) (fun ds S1 => wp (P.callI f (.hd S1.length :: ds)) (fun r S2 => r = .non ∧ Q (.hd S1.length) S2) (S1 ++ [.ins C []])) S := by
  simp only [evE, wp_bind, hf, wp_alloc]
  constructor
  · rintro ⟨ds, S1, e, r, S2, e2, h⟩
    refine ⟨ds, S1, e, r, S2, e2, ?_⟩
    cases r <;> simp at h
    exact ⟨rfl, h⟩
  · rintro ⟨ds, S1, e, r, S2, e2, rfl, h⟩
    exact ⟨ds, S1, e, _, S2, e2, by simpa using h⟩
/-- a method called -/
theorem we_meth {P : En} {σ : Sl} {a : E} {m : Str} {es : Es} {Q : D → Sto → Prop} (q : wp (evE P a σ) (fun x S1 => ∃ n C fs f, x = .hd n ∧ S1[n]? = some (.ins C fs) ∧ fs.lookup m = none ∧ P.meth C m = some f ∧ wp (evEs P es σ) (fun ds S2 => wp (P.call f (x :: ds)) Q S2) S1) S) : wp (evE P (.meth a m es) σ) Q S := by
  simp only [evE, wp_bind]
  refine wp_mono q fun x S1 h => ?_
  obtain ⟨n, C, fs, f, rfl, e, hl, hm, h⟩ := h
  rw [wp_rd]
  refine ⟨C, by simp [e, hl], ?_⟩
  refine wp_mono h fun ds S2 h2 => ?_
  rw [hm]
  exact h2
end
theorem zip_none {m : Str} : ∀ {names : List Str} {vs : List D}, m ∉ names → (names.zip vs).lookup m = none
  | [], _, _ => rfl
  | x :: r, [], _ => rfl
  | x :: r, v :: vs, h => by
    simp only [List.mem_cons, not_or] at h
    rw [List.zip_cons_cons, List.lookup_cons]
    have : (m == x) = false := by simpa using h.1
    rw [this]
    exact zip_none h.2
end Mp
set_option Elab.async false
set_option linter.all false
set_option maxRecDepth 100000
set_option maxHeartbeats 1000000
namespace K25
open PySem Mp L2
/-- an object's fields, wherever it stands -/
structure Fld (n : Nat) (ob : Ob) (F R : Nat) : Prop where
  first : ∀ {S : Sto}, S[n]? = some ob → fldP S (.hd n) ("first" : Str) = some (.hd F)
  ranges : ∀ {S : Sto}, S[n]? = some ob → fldP S (.hd n) ("ranges" : Str) = some (.hd R)
/-- Layout: one variable's places -/
theorem lay_rep {k n F R w : Nat} {ob : Ob} {S : Sto} {r : Ss} {K : K2} {v : VR} {a1 o4 a3 a5 a6 a7 : Option D} {xs ys : List D} (hw : wid v = w) (hw2 : w ≤ 2) (hx : xs.length ≤ 1000) (hy : ys.length ≤ 1000) (hs : v.size < 2 ^ 62) (fl : Fld n ob F R) (h0 : S[n]? = some ob) (hF : S[F]? = some (.lst xs)) (hR : S[R]? = some (.lst ys)) (d1 : F ≠ R) (d2 : n ≠ F) (d3 : n ≠ R)
    (q : ∀ S' o4, S'.length = S.length → S'[F]? = some (.lst (xs ++ List.replicate w (.int v.first))) → S'[R]? = some (.lst (ys ++ List.replicate w (.tup [.int 0, .int v.hi]))) → (∀ i o, i ≠ F → i ≠ R → S[i]? = some o → S'[i]? = some o) → wpB (envOf (g fuel) k) r [some (.hd n), a1, some v.d, a3, o4, a5, a6, a7] K S') :
    wpB (envOf (g fuel) k) (.cons (.for_ (.nm 4) (.rng (.cons (.bi .max2 (.cons (.cst (.int (1))) (.cons (.ix (.loc 2) (.cst (.int (2)))) .nil))) .nil))
      (.cons (.ex (.bm .append (.fld (.loc 0) ("first" : Str)) (.cons (.ix (.loc 2) (.cst (.int (5)))) .nil)))
      (.cons (.ex (.bm .append (.fld (.loc 0) ("ranges" : Str)) (.cons (.tup (.cons (.ix (.loc 2) (.cst (.int (3)))) (.cons (.ix (.loc 2) (.cst (.int (4)))) .nil))) .nil)))
      .nil))) r) [some (.hd n), a1, some v.d, a3, o4, a5, a6, a7] K S := by
  refine b_for ?_
  refine wi_rng1 ?_
  have e2 : ∀ T : Sto, ixP T v.d (.int 2) = some (.int v.size) := fun _ => rfl
  have e3 : ∀ T : Sto, ixP T v.d (.int 3) = some (.int 0) := fun _ => rfl
  have e4 : ∀ T : Sto, ixP T v.d (.int 4) = some (.int v.hi) := fun _ => rfl
  have e5 : ∀ T : Sto, ixP T v.d (.int 5) = some (.int v.first) := fun _ => rfl
  refine wp_pu (d := .int (if v.size > 1 then v.size else 1)) (by simp [pu, puEs, e2]) ⟨_, rfl, ⟨by split <;> omega, by split <;> omega⟩, ?_⟩
  have ew : (if v.size > 1 then v.size else 1).toNat = w := hw
  rw [ew]
  refine wp_for_rg (fun i σ S' => ∃ o4, σ = [some (.hd n), a1, some v.d, a3, o4, a5, a6, a7] ∧ S'.length = S.length ∧ S'[F]? = some (.lst (xs ++ List.replicate i (.int v.first))) ∧ S'[R]? = some (.lst (ys ++ List.replicate i (.tup [.int 0, .int v.hi]))) ∧ (∀ i o, i ≠ F → i ≠ R → S[i]? = some o → S'[i]? = some o))
    ⟨o4, rfl, rfl, by simpa using hF, by simpa using hR, fun i o _ _ e => e⟩ ?_ ?_
  · rintro i σ S1 hi ⟨o4, rfl, l1, f1, f2, f3⟩
    refine t_nm ?_
    show wpB (envOf (g fuel) k) _ _ (fun f σ S => Turn1 (f, σ) S _ _) S1
    have h1 := f3 n ob d2 d3 h0
    refine b_app (m := F) (.int v.first) (by simp [pu, fl.first h1]) f1 (by simp [pu, e5]) (big (by simp; omega)) ?_
    have h2 := get_set_ne (o := .lst (xs ++ List.replicate i (.int v.first) ++ [.int v.first])) h1 (Ne.symm d2)
    have f2' := get_set_ne (o := .lst (xs ++ List.replicate i (.int v.first) ++ [.int v.first])) f2 d1
    refine b_app (m := R) (.tup [.int 0, .int v.hi]) (by simp [pu, fl.ranges h2, -List.append_assoc]) f2' (by simp [pu, puEs, e3, e4, sl2]) (big (by simp; omega)) (b_nil ?_)
    refine ⟨_, rfl, by simpa using l1, ?_, ?_, fun u o u1 u2 e => get_set_ne (get_set_ne (f3 u o u1 u2 e) (Ne.symm u1)) (Ne.symm u2)⟩
    · rw [List.replicate_succ', ← List.append_assoc]
      exact get_set_ne (get_set f1) (Ne.symm d1)
    · rw [List.replicate_succ', ← List.append_assoc]
      exact get_set f2'
  · rintro σ S1 ⟨o4, rfl, l1, f1, f2, f3⟩
    exact then_nx (q S1 o4 l1 f1 f2 f3)
/-- Layout: the shared variables -/
theorem lay_vars {k n F R G : Nat} {ob : Ob} {d : D} {vs : List VR} {chs procs : List D} {S : Sto} {r : Ss} {K : K2} {o2 o4 a3 a5 a6 a7 : Option D} (h : Pr4 d vs chs procs) (fl : Fld n ob F R) (fg : ∀ {S : Sto}, S[n]? = some ob → fldP S (.hd n) ("globals" : Str) = some (.hd G)) (h0 : S[n]? = some ob) (hF : S[F]? = some (.lst [])) (hR : S[R]? = some (.lst [])) (hG : S[G]? = some (.dk []))
    (d1 : n < F) (d2 : R = F + 1) (d3 : G = F + 2)
    (q : ∀ S' o2 o4, S'.length = S.length → S'[F]? = some (.lst (fstV vs)) → S'[R]? = some (.lst (rngV vs)) → S'[G]? = some (.dk (glo 0 vs)) → (∀ i o, i < F → S[i]? = some o → S'[i]? = some o) → wpB (envOf (g fuel) k) r [some (.hd n), some d, o2, a3, o4, a5, a6, a7] K S') :
    wpB (envOf (g fuel) k) (.cons (.for_ (.nm 2) (.seq (.ix (.loc 1) (.cst (.int (1)))))
    (.cons (.asg (.sub (.fld (.loc 0) ("globals" : Str)) (.ix (.loc 2) (.cst (.int (1))))) (.tup (.cons (.bi .len (.cons (.fld (.loc 0) ("first" : Str)) .nil)) (.cons (.ix (.loc 2) (.cst (.int (2)))) .nil))))
    (.cons (.for_ (.nm 4) (.rng (.cons (.bi .max2 (.cons (.cst (.int (1))) (.cons (.ix (.loc 2) (.cst (.int (2)))) .nil))) .nil))
      (.cons (.ex (.bm .append (.fld (.loc 0) ("first" : Str)) (.cons (.ix (.loc 2) (.cst (.int (5)))) .nil)))
      (.cons (.ex (.bm .append (.fld (.loc 0) ("ranges" : Str)) (.cons (.tup (.cons (.ix (.loc 2) (.cst (.int (3)))) (.cons (.ix (.loc 2) (.cst (.int (4)))) .nil))) .nil)))
      .nil)))
    .nil))) r) [some (.hd n), some d, o2, a3, o4, a5, a6, a7] K S := by
  obtain ⟨n1, n2, n3⟩ := h.names
  have hsz := h.sizes
  obtain ⟨rfl, _, _, _⟩ := h
  refine b_for ?_
  refine wi_seqT (xs := vs.map VR.d) ?_
  simp
  refine wp_for_st (fun i σ S' => ∃ o2 o4, σ = [some (.hd n), some (.tup [.str ("program" : Str), .tup (vs.map VR.d), .tup chs, .tup procs]), o2, a3, o4, a5, a6, a7] ∧ S'.length = S.length ∧ S'[F]? = some (.lst (fstV (vs.take i))) ∧ S'[R]? = some (.lst (rngV (vs.take i))) ∧ S'[G]? = some (.dk (glo 0 (vs.take i))) ∧ (∀ i o, i < F → S[i]? = some o → S'[i]? = some o))
    ⟨o2, o4, rfl, rfl, hF, hR, hG, fun i o _ e => e⟩ ?_ ?_
  · rintro i x σ S1 hx ⟨o2, o4, rfl, l1, f1, f2, f3, f4⟩
    rw [List.getElem?_map] at hx
    obtain ⟨v, hv, rfl⟩ := Option.map_eq_some_iff.mp hx
    have hvm := List.mem_of_getElem? hv
    have hw : ∀ u ∈ vs.take i, wid u ≤ 2 := fun u hu => (n3 u (List.mem_of_mem_take hu)).2
    have lt : (vs.take i).length ≤ 3 := by rw [List.length_take]; omega
    have q1 := fstV_len hw
    have q2 := rngV_len hw
    have hnn : v.nm ∉ (vs.take i).map VR.nm := fun z => by
      rw [← List.take_append_drop i vs, List.map_append] at n1
      have := (List.nodup_append.mp n1).2.2 _ z v.nm (by
        rw [List.drop_eq_getElem_cons (List.getElem?_eq_some_iff.mp hv).1, (List.getElem?_eq_some_iff.mp hv).2, List.map_cons]
        exact List.mem_cons_self)
      exact this rfl
    refine t_nm ?_
    show wpB (envOf (g fuel) k) _ _ (fun f σ S => Turn1 (f, σ) S _ _) S1
    generalize hK : (fun f σ S => Turn1 (f, σ) S _ _ : K2) = K'
    have h1 := f4 n ob d1 h0
    have e1 : ∀ T : Sto, ixP T v.d (.int 1) = some (.str v.nm) := fun _ => rfl
    have e2 : ∀ T : Sto, ixP T v.d (.int 2) = some (.int v.size) := fun _ => rfl
    refine b_sub (.tup [.int ((fstV (vs.take i)).length : Nat), .int v.size]) (.hd G) (.str v.nm) (S1.set G (.dk (putD (glo 0 (vs.take i)) (.inr v.nm) (.tup [.int ((fstV (vs.take i)).length : Nat), .int v.size])))) (by simp [pu, puEs, fl.first h1, len_hd f1, e2, sl2]) (by simp [pu, fg h1]) (by simp [pu, e1]) (set_dk f3 rfl (big (by rw [glo_len]; omega))) ?_
    rw [glo_put hnn]
    have e5 : vs.take (i + 1) = vs.take i ++ [v] := take_snoc hv
    have g0 := get_set_ne (o := .dk (glo 0 (vs.take i ++ [v]))) h1 (by omega : G ≠ n)
    have g1 := get_set_ne (o := .dk (glo 0 (vs.take i ++ [v]))) f1 (by omega : G ≠ F)
    have g2 := get_set_ne (o := .dk (glo 0 (vs.take i ++ [v]))) f2 (by omega : G ≠ R)
    have g3 := get_set (o' := .dk (glo 0 (vs.take i ++ [v]))) f3
    refine lay_rep (w := wid v) rfl (n3 v hvm).2 (by omega) (by omega) (by rcases hsz v hvm with e | e <;> rw [e] <;> decide) fl g0 g1 g2 (by omega) (by omega) (by omega) fun S2 o4 l2 k1 k2 k3 => b_nil ?_
    rw [← hK]
    have eR : rngV [v] = List.replicate (wid v) (.tup [.int 0, .int v.hi]) := by simp [rngV]
    have eF : fstV [v] = List.replicate (wid v) (.int v.first) := by simp [fstV]
    refine ⟨_, _, rfl, by simpa [l1] using l2, by rw [e5, fstV_app, eF]; exact k1, by rw [e5, rngV_app, eR]; exact k2, by rw [e5]; exact k3 _ _ (by omega) (by omega) g3, fun u o hu e => ?_⟩
    exact k3 _ _ (by omega) (by omega) (get_set_ne (f4 u o hu e) (by omega))
  · rintro σ S1 ⟨o2, o4, rfl, l1, f1, f2, f3, f4⟩
    rw [List.length_map, List.take_length] at f1 f2 f3
    exact then_nx (q S1 o2 o4 l1 f1 f2 f3 f4)
end K25
set_option Elab.async false
set_option linter.all false
set_option maxRecDepth 100000
set_option maxHeartbeats 1000000
namespace K25
open PySem Mp L2
/-- the own variables' places of the i-th hand -/
def ownF (vs : List VR) (procs hs : List D) (i : Nat) : List (Key × D) := ownK procs (hs.getD i .non) (baseH vs procs hs i) id
/-- Layout: the hands' own variables -/
theorem lay_own {k n F R Lc : Nat} {ob : Ob} {d : D} {vs : List VR} {chs procs : List D} {S : Sto} {r : Ss} {K : K2} {o2 a3 a4 o5 o6 o7 : Option D} (h : Pr4 d vs chs procs) (fl : Fld n ob F R) (fh : ∀ {S : Sto}, S[n]? = some ob → fldP S (.hd n) ("hands" : Str) = some (.tup (handsF 0 procs))) (fo : ∀ {S : Sto}, S[n]? = some ob → fldP S (.hd n) ("locals" : Str) = some (.hd Lc)) (h0 : S[n]? = some ob) (hF : S[F]? = some (.lst (fstV vs))) (hR : S[R]? = some (.lst (rngV vs))) (hL : S[Lc]? = some (.lst []))
    (d1 : n < F) (d2 : R ≠ F) (d4 : n ≠ R) (d5 : n ≠ Lc) (d6 : Lc ≠ F) (d7 : Lc ≠ R)
    (q : ∀ S' o2 o5 o6 o7, S.length ≤ S'.length → S'[F]? = some (.lst (fstV vs ++ fstH procs (handsF 0 procs))) → S'[R]? = some (.lst (rngV vs ++ rngH procs (handsF 0 procs))) → S'[Lc]? = some (.lst (hdsF S.length (handsF 0 procs).length)) → (∀ j, j < (handsF 0 procs).length → S'[S.length + j]? = some (.dk (ownF vs procs (handsF 0 procs) j))) → (∀ i o, i ≠ F → i ≠ R → i ≠ Lc → S[i]? = some o → S'[i]? = some o) → wpB (envOf (g fuel) k) r [some (.hd n), some d, o2, a3, a4, o5, o6, o7] K S') :
    wpB (envOf (g fuel) k) (.cons (.for_ (.tp (.cons (.nm 5) (.cons (.nm 6) .nil))) (.seq (.fld (.loc 0) ("hands" : Str)))
    (.cons (.asg (.nm 7) .dnK)
    (.cons (.for_ (.nm 2) (.seq (.ix (.ix (.ix (.loc 1) (.cst (.int (3)))) (.loc 5)) (.cst (.int (3)))))
      (.cons (.asg (.sub (.loc 7) (.ix (.loc 2) (.cst (.int (1))))) (.bi .len (.cons (.fld (.loc 0) ("first" : Str)) .nil)))
      (.cons (.ex (.bm .append (.fld (.loc 0) ("first" : Str)) (.cons (.ix (.loc 2) (.cst (.int (5)))) .nil)))
      (.cons (.ex (.bm .append (.fld (.loc 0) ("ranges" : Str)) (.cons (.tup (.cons (.ix (.loc 2) (.cst (.int (3)))) (.cons (.ix (.loc 2) (.cst (.int (4)))) .nil))) .nil)))
      .nil))))
    (.cons (.ex (.bm .append (.fld (.loc 0) ("locals" : Str)) (.cons (.loc 7) .nil)))
    .nil)))) r) [some (.hd n), some d, o2, a3, a4, o5, o6, o7] K S := by
  have hP := h
  obtain ⟨n1, n2, n3⟩ := h.names
  have hnn := handsN h
  have fv := fstV_len fun v hv => (n3 v hv).2
  have rv := rngV_len fun v hv => (n3 v hv).2
  obtain ⟨rfl, _, _, _⟩ := h
  have hFl := lt_of_get hF
  have hRl := lt_of_get hR
  have hLl := lt_of_get hL
  have hnl := lt_of_get h0
  refine b_for ?_
  refine wi_seqT (xs := handsF 0 procs) ?_
  refine wp_pu (d := .tup (handsF 0 procs)) (by simp [pu, fh h0]) ⟨.inl rfl, ?_⟩
  refine wp_for_st (fun i σ S' => ∃ o2 o5 o6 o7, σ = [some (.hd n), some (.tup [.str ("program" : Str), .tup (vs.map VR.d), .tup chs, .tup procs]), o2, a3, a4, o5, o6, o7] ∧ S'.length = S.length + i ∧ S'[F]? = some (.lst (fstV vs ++ fstH procs ((handsF 0 procs).take i))) ∧ S'[R]? = some (.lst (rngV vs ++ rngH procs ((handsF 0 procs).take i))) ∧ S'[Lc]? = some (.lst (hdsF S.length i)) ∧
      (∀ j, j < i → S'[S.length + j]? = some (.dk (ownF vs procs (handsF 0 procs) j))) ∧ (∀ i o, i ≠ F → i ≠ R → i ≠ Lc → S[i]? = some o → S'[i]? = some o))
    ⟨o2, o5, o6, o7, rfl, rfl, by simpa [fstH] using hF, by simpa [rngH] using hR, hL, fun j hj => absurd hj (Nat.not_lt_zero _), fun i o _ _ _ e => e⟩ ?_ ?_
  · rintro i x σ S1 hx ⟨o2, o5, o6, o7, rfl, l1, f1, f2, f3, f4, f5⟩
    have hil := (List.getElem?_eq_some_iff.mp hx).1
    obtain ⟨fl4, rl4⟩ := fstH_len hP (i := i)
    obtain ⟨j, k', p, nm, cp, own, body, rfl, hj, hpg, eo, ho⟩ := own_hand hP (List.mem_of_getElem? hx)
    have eg : (handsF 0 procs).getD i .non = .tup [.int (j : Nat), .int (k' : Nat)] := by rw [List.getD_eq_getElem?_getD, hx]; rfl
    simp only [evT, evTs, wp_bind, wp_pure]
    show wpB (envOf (g fuel) k) _ _ (fun f σ S => Turn1 (f, σ) S _ _) S1
    have t1 : rngH procs [.tup [.int (j : Nat), .int (k' : Nat)]] = own.map rngO := by
      show List.flatMap _ _ = _
      rw [List.flatMap_cons, eo]; simp
    have t2 : fstH procs [.tup [.int (j : Nat), .int (k' : Nat)]] = own.map fstO := by
      show List.flatMap _ _ = _
      rw [List.flatMap_cons, eo]; simp
    have nxt : ∀ (o2 : Option D) (S' : Sto), S'.length = S.length + (i + 1) → S'[F]? = some (.lst (fstV vs ++ fstH procs ((handsF 0 procs).take i) ++ own.map fstO)) → S'[R]? = some (.lst (rngV vs ++ rngH procs ((handsF 0 procs).take i) ++ own.map rngO)) → S'[Lc]? = some (.lst (hdsF S.length (i + 1))) →
        S'[S.length + i]? = some (.dk (own.map fun v => (.inr (nmD v), .int (baseH vs procs (handsF 0 procs) i : Nat)))) → (∀ u o, u ≠ F → u ≠ R → u ≠ Lc → S1[u]? = some o → S'[u]? = some o) → (fun σ S' => ∃ o2 o5 o6 o7, σ = [some (.hd n), some (.tup [.str ("program" : Str), .tup (vs.map VR.d), .tup chs, .tup procs]), o2, a3, a4, o5, o6, o7] ∧ S'.length = S.length + (i + 1) ∧ S'[F]? = some (.lst (fstV vs ++ fstH procs ((handsF 0 procs).take (i + 1)))) ∧ S'[R]? = some (.lst (rngV vs ++ rngH procs ((handsF 0 procs).take (i + 1)))) ∧ S'[Lc]? = some (.lst (hdsF S.length (i + 1))) ∧
      (∀ j, j < (i + 1) → S'[S.length + j]? = some (.dk (ownF vs procs (handsF 0 procs) j))) ∧ (∀ i o, i ≠ F → i ≠ R → i ≠ Lc → S[i]? = some o → S'[i]? = some o))
        [some (.hd n), some (.tup [.str ("program" : Str), .tup (vs.map VR.d), .tup chs, .tup procs]), o2, a3, a4, some (.int (j : Nat)), some (.int (k' : Nat)), some (.hd (S.length + i))] S' := fun o2 S' a0 a1 a2 a3 a4 a5 => by
      refine ⟨_, _, _, _, rfl, a0, by rw [take_snoc hx, fstH_app, t2, ← List.append_assoc]; exact a1, by rw [take_snoc hx, rngH_app, t1, ← List.append_assoc]; exact a2, a3, fun u hu => ?_, fun u o u1 u2 u3 e => a5 _ _ u1 u2 u3 (f5 u o u1 u2 u3 e)⟩
      by_cases hui : u = i
      · subst hui
        rw [a4]
        unfold ownF ownK
        rw [eg, eo]
        rfl
      · exact a5 _ _ (by omega) (by omega) (by omega) (f4 u (by omega))
    generalize hK : (fun f σ S => Turn1 (f, σ) S _ _ : K2) = K'
    have nxt' : ∀ (o2 : Option D) (S' : Sto), S'.length = S.length + (i + 1) → S'[F]? = some (.lst (fstV vs ++ fstH procs ((handsF 0 procs).take i) ++ own.map fstO)) → S'[R]? = some (.lst (rngV vs ++ rngH procs ((handsF 0 procs).take i) ++ own.map rngO)) → S'[Lc]? = some (.lst (hdsF S.length (i + 1))) →
        S'[S.length + i]? = some (.dk (own.map fun v => (.inr (nmD v), .int (baseH vs procs (handsF 0 procs) i : Nat)))) → (∀ u o, u ≠ F → u ≠ R → u ≠ Lc → S1[u]? = some o → S'[u]? = some o) → K' .nx [some (.hd n), some (.tup [.str ("program" : Str), .tup (vs.map VR.d), .tup chs, .tup procs]), o2, a3, a4, some (.int (j : Nat)), some (.int (k' : Nat)), some (.hd (S.length + i))] S' := fun o2 S' a0 a1 a2 a3 a4 a5 => by
      rw [← hK]
      exact nxt o2 S' a0 a1 a2 a3 a4 a5
    clear hK nxt
    have e1 : atI procs ((j : Nat) : Int) = some p := L2.atI_nat hj
    obtain ⟨rfl, _, _, _⟩ := hpg
    have h1 := f5 n ob (by omega) (by omega) (by omega) h0
    refine b_asg ?_
    rw [we_dnK, l1]
    refine t_nm ?_
    have v0 := get_push (o := Ob.dk []) h1
    have v1 := get_push (o := Ob.dk []) f1
    have v2 := get_push (o := Ob.dk []) f2
    have v3 := get_push (o := Ob.dk []) f3
    have v4 := get_new (S := S1) (o := Ob.dk [])
    rw [l1] at v4
    have vl : (S1 ++ [Ob.dk []]).length = S.length + (i + 1) := by rw [List.length_append, l1]; rfl
    have v5 : ∀ u o, S1[u]? = some o → (S1 ++ [Ob.dk []])[u]? = some o := fun u o e => get_push e
    generalize hS2 : S1 ++ [Ob.dk []] = S2 at *
    clear hS2
    refine b_for ?_
    refine wi_seqT (xs := own) ?_
    refine wp_pu (d := .tup own) (by simp [pu, e1]) ⟨.inl rfl, ?_⟩
    have fin : ∀ (o2 : Option D) (S' : Sto), S'.length = S.length + (i + 1) → S'[n]? = some ob → S'[F]? = some (.lst (fstV vs ++ fstH procs ((handsF 0 procs).take i) ++ own.map fstO)) → S'[R]? = some (.lst (rngV vs ++ rngH procs ((handsF 0 procs).take i) ++ own.map rngO)) → S'[Lc]? = some (.lst (hdsF S.length i)) →
        S'[S.length + i]? = some (.dk (own.map fun v => (.inr (nmD v), .int (baseH vs procs (handsF 0 procs) i : Nat)))) → (∀ u o, u ≠ F → u ≠ R → u ≠ Lc → S1[u]? = some o → S'[u]? = some o) → wpB (envOf (g fuel) k) (.cons (.ex (.bm .append (.fld (.loc 0) ("locals" : Str)) (.cons (.loc 7) .nil)))
    .nil) [some (.hd n), some (.tup [.str ("program" : Str), .tup (vs.map VR.d), .tup chs, .tup procs]), o2, a3, a4, some (.int (j : Nat)), some (.int (k' : Nat)), some (.hd (S.length + i))] K' S' := fun o2 S' a0 ah a1 a2 a3 a4 a5 => by
      refine b_app (m := Lc) (.hd (S.length + i)) (by simp [pu, fo ah]) a3 rfl (big (by rw [hdsF_len]; omega)) (b_nil ?_)
      exact nxt' _ _ (by simpa using a0) (get_set_ne a1 d6) (get_set_ne a2 d7) (by rw [hdsF_succ]; exact get_set a3) (get_set_ne a4 (by omega)) fun u o u1 u2 u3 e => get_set_ne (a5 u o u1 u2 u3 e) (Ne.symm u3)
    rcases ho with rfl | ⟨v, rfl⟩
    · exact wp_for_nil (then_nx (fin _ _ vl v0 (by simpa using v1) (by simpa using v2) v3 v4 fun u o _ _ _ e => v5 u o e))
    · refine wp_for_one (t_nm ?_)
      show wpB (envOf (g fuel) k) _ _ (fun f σ S => Turn1 (f, σ) S _ _) S2
      have hbig : (fstV vs ++ fstH procs ((handsF 0 procs).take i)).length < sizeLine := big (by rw [List.length_append]; omega)
      have hbig2 : (rngV vs ++ rngH procs ((handsF 0 procs).take i)).length < sizeLine := big (by rw [List.length_append]; omega)
      refine b_sub (.int (baseH vs procs (handsF 0 procs) i : Nat)) (.hd (S.length + i)) (.str "v") (S2.set (S.length + i) (.dk [(.inr ("v" : Str), .int (baseH vs procs (handsF 0 procs) i : Nat))])) (by simp [pu, puEs, fl.first v0, len_hd v1, baseH]) rfl (by simp [pu, Var]) (by rw [set_dk v4 rfl (big (by simp))]; rfl) ?_
      have w0 := get_set_ne (o := .dk [(.inr ("v" : Str), .int (baseH vs procs (handsF 0 procs) i : Nat))]) v0 (by omega : S.length + i ≠ n)
      have w1 := get_set_ne (o := .dk [(.inr ("v" : Str), .int (baseH vs procs (handsF 0 procs) i : Nat))]) v1 (by omega : S.length + i ≠ F)
      have w2 := get_set_ne (o := .dk [(.inr ("v" : Str), .int (baseH vs procs (handsF 0 procs) i : Nat))]) v2 (by omega : S.length + i ≠ R)
      have w3 := get_set_ne (o := .dk [(.inr ("v" : Str), .int (baseH vs procs (handsF 0 procs) i : Nat))]) v3 (by omega : S.length + i ≠ Lc)
      have w4 := get_set (o' := .dk [(.inr ("v" : Str), .int (baseH vs procs (handsF 0 procs) i : Nat))]) v4
      have w5 : ∀ u o, S1[u]? = some o → (S2.set (S.length + i) (.dk [(.inr ("v" : Str), .int (baseH vs procs (handsF 0 procs) i : Nat))]))[u]? = some o := fun u o e => get_set_ne (v5 u o e) (by have := lt_of_get e; omega)
      have wl : (S2.set (S.length + i) (.dk [(.inr ("v" : Str), .int (baseH vs procs (handsF 0 procs) i : Nat))])).length = S.length + (i + 1) := by simpa using vl
      generalize hS3 : S2.set (S.length + i) (.dk [(.inr ("v" : Str), .int (baseH vs procs (handsF 0 procs) i : Nat))]) = S3 at *
      clear hS3
      refine b_app (m := F) (.int v) (by simp [pu, fl.first w0]) w1 (by simp [pu, puEs, Var]) hbig ?_
      have x0 := get_set_ne (o := .lst (fstV vs ++ fstH procs ((handsF 0 procs).take i) ++ [.int v])) w0 (by omega : F ≠ n)
      have x1 := get_set (o' := .lst (fstV vs ++ fstH procs ((handsF 0 procs).take i) ++ [.int v])) w1
      have x2 := get_set_ne (o := .lst (fstV vs ++ fstH procs ((handsF 0 procs).take i) ++ [.int v])) w2 (Ne.symm d2)
      refine b_app (m := R) (.tup [.int 0, .int 1]) (by simp [pu, fl.ranges x0, -List.append_assoc]) x2 (by simp [pu, puEs, sl2, Var]) hbig2 (b_nil ?_)
      refine then_nx (then_nx (fin _ _ (by simpa using wl) (get_set_ne x0 (by omega)) ?_ ?_ ?_ ?_ fun u o u1 u2 u3 e => get_set_ne (get_set_ne (w5 u o e) (Ne.symm u1)) (Ne.symm u2)))
      · exact get_set_ne x1 d2
      · exact get_set x2
      · exact get_set_ne (get_set_ne w3 (Ne.symm d6)) (Ne.symm d7)
      · exact get_set_ne (get_set_ne w4 (by omega)) (by omega)
  · rintro σ S1 ⟨o2, o5, o6, o7, rfl, l1, f1, f2, f3, f4, f5⟩
    rw [List.take_length] at f1 f2
    exact then_nx (q S1 _ _ _ _ (by omega) f1 f2 f3 f4 f5)
end K25
set_option Elab.async false
set_option linter.all false
set_option maxRecDepth 100000
set_option maxHeartbeats 1000000
namespace Mp
open PySem L2
/-- o.f = a plain expression, f new -/
theorem b_fldN {P : En} {σ : Sl} {S : Sto} {r : Ss} {K : K2} {o e : E} {f : Str} {d : D} {n C : Nat} {names : List Str} {vs : List D} (he : pu e σ S = some d) (ho : pu o σ S = some (.hd n)) (h : S[n]? = some (.ins C (names.zip vs))) (hf : f ∉ names) (hl : names.length = vs.length) (h9 : names.length < 1000) (q : wpB P r σ K (S.set n (.ins C ((names ++ [f]).zip (vs ++ [d]))))) : wpB P (.cons (.asg (.fld o f) e) r) σ K S :=
  b_asg (wp_pu he (t_fld ho (setF_new h hf hl h9) q))
theorem t_tp {P : En} {σ : Sl} {S : Sto} {ts : Ts} {ds : List D} {Q : Sl → Sto → Prop} (h : wp (evTs P ts ds σ) Q S) : wp (evT P (.tp ts) (.tup ds) σ) Q S := by
  simp only [evT]
  exact h
theorem t_tpC {P : En} {σ : Sl} {S : Sto} {t : T} {ts : Ts} {d : D} {ds : List D} {Q : Sl → Sto → Prop} (h : wp (evT P t d σ) (fun σ1 S1 => wp (evTs P ts ds σ1) Q S1) S) : wp (evTs P (.cons t ts) (d :: ds) σ) Q S := by
  simp only [evTs, wp_bind]
  exact h
theorem t_tpN {P : En} {σ : Sl} {S : Sto} {Q : Sl → Sto → Prop} (h : Q σ S) : wp (evTs P .nil [] σ) Q S := by
  simp only [evTs, wp_pure]
  exact h
end Mp
namespace K25
open PySem Mp L2
theorem fn_init : (g fuel).fns f_Layout_init = ⟨8, 2, b_Layout_init⟩ := rfl
abbrev LN : List Str := [("program" : Str), ("hands" : Str), ("first" : Str), ("ranges" : Str), ("globals" : Str), ("locals" : Str), ("queues" : Str), ("statements" : Str), ("blocks" : Str), ("bodies" : Str)]
abbrev LN5 : List Str := [("program" : Str), ("hands" : Str), ("first" : Str), ("ranges" : Str), ("globals" : Str)]
abbrev LN6 : List Str := [("program" : Str), ("hands" : Str), ("first" : Str), ("ranges" : Str), ("globals" : Str), ("locals" : Str)]
abbrev stF (p : D) : D := .tup (allS 4 (bodyL p))
abbrev blF (p : D) : D := .tup (tups (num 4 (bodyL p) 1).2.2)
abbrev boF (p : D) : D := .tup (num 4 (bodyL p) 1).1
abbrev numF (p : D) : D := .tup [stF p, blF p, boF p]
/-- the queues' dict -/
def queF : List D → List (Key × D)
  | [.tup [_, .str x, a, b, c]] => [(.inr x, .tup [.int 0, a, b, c])]
  | _ => []
/-- what Layout is -/
structure LayR (S : Sto) (d : D) (vs : List VR) (chs procs : List D) (n F R G Lc Qh lo : Nat) : Prop where
  ob : S[n]? = some (.ins 0 (LN.zip [d, .tup (handsF 0 procs), .hd F, .hd R, .hd G, .hd Lc, .hd Qh, .lst (procs.map stF), .lst (procs.map blF), .lst (procs.map boF)]))
  first : S[F]? = some (.lst (fstV vs ++ fstH procs (handsF 0 procs)))
  ranges : S[R]? = some (.lst (rngV vs ++ rngH procs (handsF 0 procs)))
  globals : S[G]? = some (.dk (glo 0 vs))
  locals_ : S[Lc]? = some (.lst (hdsF lo (handsF 0 procs).length))
  own : ∀ j, j < (handsF 0 procs).length → S[lo + j]? = some (.dk (ownF vs procs (handsF 0 procs) j))
  queues : S[Qh]? = some (.dk (queF chs))
theorem sp_layout {k n : Nat} {d : D} {vs : List VR} {chs procs : List D} {S : Sto} {Q : D → Sto → Prop} (h : Pr4 d vs chs procs) (h0 : S[n]? = some (.ins 0 [])) (q : ∀ S' F R G Lc Qh lo, Gd n S S' → LayR S' d vs chs procs n F R G Lc Qh lo → Q .non S') : wp (run (g fuel) (k + 8) f_Layout_init [.hd n, d]) Q S := by
  refine wp_run fn_init rfl ?_
  show wpB (envOf (g fuel) (k + 7)) b_Layout_init [some (.hd n), some d, none, none, none, none, none, none] (fun f _ S' => match f with
    | .rt d => Q d S'
    | .nx => Q .non S'
    | _ => False) S
  have hnl := lt_of_get h0
  refine b_fldN (n := n) (d := d) (names := []) (vs := []) rfl rfl h0 (by decide +kernel) rfl (by decide) ?_
  have g0 := get_set (o' := .ins 0 ((([] : List Str) ++ [("program" : Str)]).zip ([] ++ [d]))) h0
  have ge0 : Gd n S (S.set n (.ins 0 ((([] : List Str) ++ [("program" : Str)]).zip ([] ++ [d])))) := (Gd.mk (Nat.le_refl _) fun _ _ _ e => e : Gd n S S).set
  generalize S.set n (.ins 0 ((([] : List Str) ++ [("program" : Str)]).zip ([] ++ [d]))) = S1 at *
  refine b_asg ?_
  simp
  refine sp_hands (k := k + 6) h ?_
  refine t_fld (x := .hd n) (by simp [pu]) (setF_new g0 (by decide +kernel) rfl (by decide)) ?_
  have g1 := get_set (o' := .ins 0 ((([] : List Str) ++ [("program" : Str)] ++ [("hands" : Str)]).zip ([] ++ [d] ++ [.tup (handsF 0 procs)]))) g0
  have ge1 := ge0.set (o := .ins 0 ((([] : List Str) ++ [("program" : Str)] ++ [("hands" : Str)]).zip ([] ++ [d] ++ [.tup (handsF 0 procs)])))
  generalize S1.set n (.ins 0 ((([] : List Str) ++ [("program" : Str)] ++ [("hands" : Str)]).zip ([] ++ [d] ++ [.tup (handsF 0 procs)]))) = S2 at *
  have hl2 := ge1.len
  refine b_asg ?_
  simp only [we_tup, wes_cons, we_lstT, wes_nil, we_dnK]
  refine ⟨slen (by decide), slen (by decide), slen (by simp), t_tp (t_tpC (t_fld (x := .hd n) rfl (setF_new (get_push (get_push (get_push g1))) (by decide +kernel) rfl (by decide)) ?_))⟩
  have a1 := get_set (o' := .ins 0 ((([] : List Str) ++ [("program" : Str)] ++ [("hands" : Str)] ++ [("first" : Str)]).zip ([] ++ [d] ++ [.tup (handsF 0 procs)] ++ [.hd S2.length]))) (get_push (o := Ob.dk []) (get_push (o := Ob.lst []) (get_push (o := Ob.lst []) g1)))
  refine t_tpC (t_fld (x := .hd n) rfl (setF_new a1 (by decide +kernel) rfl (by decide)) ?_)
  have a2 := get_set (o' := .ins 0 ((([] : List Str) ++ [("program" : Str)] ++ [("hands" : Str)] ++ [("first" : Str)] ++ [("ranges" : Str)]).zip ([] ++ [d] ++ [.tup (handsF 0 procs)] ++ [.hd S2.length] ++ [.hd (S2 ++ [Ob.lst []]).length]))) a1
  refine t_tpC (t_fld (x := .hd n) rfl (setF_new a2 (by decide +kernel) rfl (by decide)) (t_tpN ?_))
  rw [List.set_set, List.set_set]
  have l1 : (S2 ++ [Ob.lst []]).length = S2.length + 1 := by simp
  have l2 : (S2 ++ [Ob.lst []] ++ [Ob.lst []]).length = S2.length + 2 := by simp
  have b0 := get_set (o' := .ins 0 (LN5.zip [d, .tup (handsF 0 procs), .hd S2.length, .hd (S2.length + 1), .hd (S2.length + 2)])) (get_push (o := Ob.dk []) (get_push (o := Ob.lst []) (get_push (o := Ob.lst []) g1)))
  rw [l1, l2]
  show wpB _ _ _ _ ((S2 ++ [Ob.lst []] ++ [Ob.lst []] ++ [Ob.dk []]).set n (.ins 0 (LN5.zip [d, .tup (handsF 0 procs), .hd S2.length, .hd (S2.length + 1), .hd (S2.length + 2)])))
  have ge2 := (ge1.trans ((Gd.push (o := Ob.lst [])).trans ((Gd.push (o := Ob.lst [])).trans (Gd.push (o := Ob.dk []))))).set (o := .ins 0 (LN5.zip [d, .tup (handsF 0 procs), .hd S2.length, .hd (S2.length + 1), .hd (S2.length + 2)]))
  have b1 := get_set_ne (o := .ins 0 (LN5.zip [d, .tup (handsF 0 procs), .hd S2.length, .hd (S2.length + 1), .hd (S2.length + 2)])) (get_push (o := Ob.dk []) (get_push (o := Ob.lst []) (get_new (S := S2) (o := Ob.lst [])))) (by omega : n ≠ S2.length)
  have b2 := get_set_ne (o := .ins 0 (LN5.zip [d, .tup (handsF 0 procs), .hd S2.length, .hd (S2.length + 1), .hd (S2.length + 2)])) (get_push (o := Ob.dk []) (get_new (S := S2 ++ [Ob.lst []]) (o := Ob.lst []))) (by omega : n ≠ (S2 ++ [Ob.lst []]).length)
  have b3 := get_set_ne (o := .ins 0 (LN5.zip [d, .tup (handsF 0 procs), .hd S2.length, .hd (S2.length + 1), .hd (S2.length + 2)])) (get_new (S := S2 ++ [Ob.lst []] ++ [Ob.lst []]) (o := Ob.dk [])) (by omega : n ≠ (S2 ++ [Ob.lst []] ++ [Ob.lst []]).length)
  rw [l1] at b2
  rw [l2] at b3
  have l3 : ((S2 ++ [Ob.lst []] ++ [Ob.lst []] ++ [Ob.dk []]).set n (.ins 0 (LN5.zip [d, .tup (handsF 0 procs), .hd S2.length, .hd (S2.length + 1), .hd (S2.length + 2)]))).length = S2.length + 3 := by simp
  generalize (S2 ++ [Ob.lst []] ++ [Ob.lst []] ++ [Ob.dk []]).set n (.ins 0 (LN5.zip [d, .tup (handsF 0 procs), .hd S2.length, .hd (S2.length + 1), .hd (S2.length + 2)])) = S3 at *
  have fl5 : Fld n (.ins 0 (LN5.zip [d, .tup (handsF 0 procs), .hd S2.length, .hd (S2.length + 1), .hd (S2.length + 2)])) S2.length (S2.length + 1) := ⟨fun e => fld_at 2 e (by decide +kernel) rfl rfl, fun e => fld_at 3 e (by decide +kernel) rfl rfl⟩
  refine lay_vars h fl5 (fun e => fld_at 4 e (by decide +kernel) rfl rfl) b0 b1 b2 b3 (by omega) rfl rfl fun S4 o2 o4 l4 c1 c2 c3 c4 => ?_
  have c0 := c4 _ _ (by omega) b0
  -- locals
  refine b_asg ?_
  simp only [we_lstT, wes_nil]
  refine ⟨slen (by decide), t_fld (x := .hd n) rfl (setF_new (get_push c0) (by decide +kernel) rfl (by decide)) ?_⟩
  have e0 := get_set (o' := .ins 0 (LN6.zip [d, .tup (handsF 0 procs), .hd S2.length, .hd (S2.length + 1), .hd (S2.length + 2), .hd S4.length])) (get_push (o := Ob.lst []) c0)
  show wpB _ _ _ _ ((S4 ++ [Ob.lst []]).set n (.ins 0 (LN6.zip [d, .tup (handsF 0 procs), .hd S2.length, .hd (S2.length + 1), .hd (S2.length + 2), .hd S4.length])))
  have e1 := get_set_ne (o := .ins 0 (LN6.zip [d, .tup (handsF 0 procs), .hd S2.length, .hd (S2.length + 1), .hd (S2.length + 2), .hd S4.length])) (get_push (o := Ob.lst []) c1) (by omega : n ≠ S2.length)
  have e2 := get_set_ne (o := .ins 0 (LN6.zip [d, .tup (handsF 0 procs), .hd S2.length, .hd (S2.length + 1), .hd (S2.length + 2), .hd S4.length])) (get_push (o := Ob.lst []) c2) (by omega : n ≠ S2.length + 1)
  have e3 := get_set_ne (o := .ins 0 (LN6.zip [d, .tup (handsF 0 procs), .hd S2.length, .hd (S2.length + 1), .hd (S2.length + 2), .hd S4.length])) (get_push (o := Ob.lst []) c3) (by omega : n ≠ S2.length + 2)
  have e4 := get_set_ne (o := .ins 0 (LN6.zip [d, .tup (handsF 0 procs), .hd S2.length, .hd (S2.length + 1), .hd (S2.length + 2), .hd S4.length])) (get_new (S := S4) (o := Ob.lst [])) (by omega : n ≠ S4.length)
  have e5 : ∀ i o, i < S2.length → i ≠ n → S3[i]? = some o → ((S4 ++ [Ob.lst []]).set n (.ins 0 (LN6.zip [d, .tup (handsF 0 procs), .hd S2.length, .hd (S2.length + 1), .hd (S2.length + 2), .hd S4.length])))[i]? = some o := fun i o hi hin e => get_set_ne (get_push (c4 i o hi e)) (Ne.symm hin)
  have l5 : ((S4 ++ [Ob.lst []]).set n (.ins 0 (LN6.zip [d, .tup (handsF 0 procs), .hd S2.length, .hd (S2.length + 1), .hd (S2.length + 2), .hd S4.length]))).length = S4.length + 1 := by simp
  generalize (S4 ++ [Ob.lst []]).set n (.ins 0 (LN6.zip [d, .tup (handsF 0 procs), .hd S2.length, .hd (S2.length + 1), .hd (S2.length + 2), .hd S4.length])) = S5 at *
  have fl6 : Fld n (.ins 0 (LN6.zip [d, .tup (handsF 0 procs), .hd S2.length, .hd (S2.length + 1), .hd (S2.length + 2), .hd S4.length])) S2.length (S2.length + 1) := ⟨fun e => fld_at 2 e (by decide +kernel) rfl rfl, fun e => fld_at 3 e (by decide +kernel) rfl rfl⟩
  refine lay_own h fl6 (fun e => fld_at 1 e (by decide +kernel) rfl rfl) (fun e => fld_at 5 e (by decide +kernel) rfl rfl) e0 e1 e2 e4 (by omega) (by omega) (by omega) (by omega) (by omega) (by omega) fun S6 o2 o5 o6 o7 l6 u1 u2 u3 u4 u5 => ?_
  have u0 := u5 _ _ (by omega) (by omega) (by omega) e0
  have u6 := u5 _ _ (by omega) (by omega) (by omega) e3
  have ge6 : Gd n S S6 := ⟨by have := ge2.len; omega, fun i o hi e => by
    have hil := lt_of_get e
    have := ge2.len
    exact u5 _ _ (by omega) (by omega) (by omega) (e5 i o (by omega) hi (ge2.keep i o hi e))⟩
  -- queues
  have hq : ∀ (σ : Sl) (S : Sto) (Q : D → Sto → Prop), σ.length = 8 → σ[1]? = some (some d) → (∀ S', Q (.hd S.length) (S ++ [Ob.dk (queF chs)])) → wp (evE (envOf (g fuel) (k + 7)) (.dictOf true (.comp false [4, 2] (.tp (.cons (.nm 4) (.cons (.nm 2) .nil))) (.enum (.ix (.loc 1) (.cst (.int (2))))) .no (.tup (.cons (.ix (.loc 2) (.cst (.int (1)))) (.cons (.bin .add (.tup (.cons (.loc 4) .nil)) (.sl (.loc 2) (.yes (.cst (.int (2)))) .no)) .nil))))) σ) Q S := fun σ S Q hl h1 hQ => by
    rw [we_dictT, we_comp]
    have hch := h.chans
    have hd := h.eq
    refine wi_enT (xs := chs) ?_
    refine wp_pu (d := .tup chs) (by simp [pu, h1, hd]) ⟨.inl rfl, ?_⟩
    rcases hch with rfl | ⟨s, rfl⟩
    · refine wp_comp_st (fun i acc S' => acc = [] ∧ S' = S) ⟨rfl, rfl⟩ (fun i d acc S' e _ => by simp [enumD] at e) ?_
      rintro acc S' ⟨rfl, rfl⟩
      exact ⟨slen (by simp), [], rfl, hQ S'⟩
    · refine wp_comp_st (fun i acc S' => S' = S ∧ acc = ([D.tup [.str "q", .tup [.int 0, .int s, .int 0, .int 1]]] : List D).take i) ⟨rfl, rfl⟩ ?_ ?_
      · rintro i x acc S' hx ⟨rfl, rfl⟩
        match i with
        | 0 =>
          simp [enumD] at hx
          subst hx
          simp only [wc_no, if_true]
          refine t_tp (t_tpC (t_nm (t_tpC (t_nm (t_tpN ?_)))))
          simp [wipeD, hl]
          have s1 : slP S' (Chan s) (some 2) none = some (.tup [.int s, .int 0, .int 1]) := rfl
          refine ⟨sl1, wp_pu (d := .tup [.int s, .int 0, .int 1]) ?_ ⟨_, bin_addT (slen (by simp)), sl2, rfl, rfl⟩⟩
          simp [pu, puO, hl, s1]
        | i + 1 => simp [enumD] at hx
      · rintro acc S' ⟨rfl, rfl⟩
        exact ⟨slen (by simp [enumD]), _, rfl, hQ S'⟩
  have hc : ∀ (j : Int) (f : D → D) (σ : Sl) (S : Sto) (Q : D → Sto → Prop), (∀ p T, ixP T (numF p) (.int j) = some (f p)) → σ.length = 8 → σ[3]? = some (some (.lst (procs.map numF))) → Q (.lst (procs.map f)) S → wp (evE (envOf (g fuel) (k + 7)) (.comp false [2] (.nm 2) (.seq (.loc 3)) .no (.ix (.loc 2) (.cst (.int j)))) σ) Q S := fun j f σ S Q hf hl h3 hQ => by
    have hpl := h.procs.1
    rw [we_comp]
    refine wi_seqT (xs := procs.map numF) ?_
    refine wp_pu (d := .lst (procs.map numF)) (by simp [pu, h3]) ⟨.inr rfl, ?_⟩
    refine wp_comp_st (fun i acc S' => acc = (procs.take i).map f ∧ S' = S) ⟨rfl, rfl⟩ ?_ ?_
    · rintro i x acc S' hx ⟨rfl, rfl⟩
      rw [List.getElem?_map] at hx
      obtain ⟨p, hp, rfl⟩ := Option.map_eq_some_iff.mp hx
      refine t_nm ?_
      simp only [wc_no, if_true]
      refine wp_pu (d := f p) (by simp [pu, wipeD, hl, hf]) ⟨?_, rfl⟩
      rw [take_snoc hp, List.map_append]
      rfl
    · rintro acc S' ⟨rfl, rfl⟩
      have e : procs.take (procs.map numF).length = procs := by rw [List.length_map, List.take_length]
      rw [e]
      exact ⟨slen (by rw [List.length_map]; omega), hQ⟩
  refine b_asg (hq _ _ _ rfl rfl fun _ => ?_)
  refine t_fld (x := .hd n) rfl (setF_new (get_push u0) (by decide +kernel) rfl (by decide)) ?_
  have x0 := get_set (o' := .ins 0 ((LN6 ++ [("queues" : Str)]).zip ([d, .tup (handsF 0 procs), .hd S2.length, .hd (S2.length + 1), .hd (S2.length + 2), .hd S4.length] ++ [.hd S6.length]))) (get_push (o := Ob.dk (queF chs)) u0)
  have hn6 : n < S6.length := lt_of_get u0
  have x1 := get_set_ne (o := .ins 0 ((LN6 ++ [("queues" : Str)]).zip ([d, .tup (handsF 0 procs), .hd S2.length, .hd (S2.length + 1), .hd (S2.length + 2), .hd S4.length] ++ [.hd S6.length]))) (get_new (S := S6) (o := Ob.dk (queF chs))) (by omega : n ≠ S6.length)
  have x2 : ∀ i o, i ≠ n → S6[i]? = some o → ((S6 ++ [Ob.dk (queF chs)]).set n (.ins 0 ((LN6 ++ [("queues" : Str)]).zip ([d, .tup (handsF 0 procs), .hd S2.length, .hd (S2.length + 1), .hd (S2.length + 2), .hd S4.length] ++ [.hd S6.length]))))[i]? = some o := fun i o hi e => get_set_ne (get_push e) (Ne.symm hi)
  have l7 : ((S6 ++ [Ob.dk (queF chs)]).set n (.ins 0 ((LN6 ++ [("queues" : Str)]).zip ([d, .tup (handsF 0 procs), .hd S2.length, .hd (S2.length + 1), .hd (S2.length + 2), .hd S4.length] ++ [.hd S6.length])))).length = S6.length + 1 := by simp
  generalize (S6 ++ [Ob.dk (queF chs)]).set n (.ins 0 ((LN6 ++ [("queues" : Str)]).zip ([d, .tup (handsF 0 procs), .hd S2.length, .hd (S2.length + 1), .hd (S2.length + 2), .hd S4.length] ++ [.hd S6.length]))) = S7 at *
  -- told
  refine b_asg ?_
  rw [we_comp]
  refine wi_seqT (xs := procs) ?_
  have hd := h.eq
  refine wp_pu (d := .tup procs) (by simp [pu, hd]) ⟨.inl rfl, ?_⟩
  obtain ⟨hpl, hpp⟩ := h.procs
  refine wp_comp_st (fun i acc S' => acc = (procs.take i).map numF ∧ Ge S7 S') ⟨rfl, Ge.refl _⟩ ?_ ?_
  · rintro i x acc S' hx ⟨rfl, ge⟩
    obtain ⟨nm, cp, own, body, ⟨rfl, _, bl, bg⟩, _, _⟩ := hpp x (List.mem_of_getElem? hx)
    refine t_nm ?_
    simp only [wc_no, if_true]
    simp [wipeD]
    refine sp_numbered (n := 4) (k := k) (by decide) bl (fun y hy => (bg y hy).1) fun S8 g8 => ⟨?_, ge.trans g8⟩
    have e : (procs.map numF)[i]? = some (numF (.tup [.str ("process" : Str), .str nm, .int cp, .tup own, .tup body])) := by rw [List.getElem?_map, hx]; rfl
    rw [take_snoc e]
    rfl
  · rintro acc S8 ⟨rfl, g8⟩
    rw [List.take_length]
    refine ⟨slen (by rw [List.length_map]; omega), t_nm ?_⟩
    have y0 := g8.2 _ _ x0
    refine b_asg (hc 0 stF _ _ _ (fun p T => rfl) rfl rfl ?_)
    refine t_fld (x := .hd n) rfl (setF_new y0 (by decide +kernel) rfl (by decide)) ?_
    have z0 := get_set (o' := .ins 0 ((LN6 ++ [("queues" : Str)] ++ [("statements" : Str)]).zip ([d, .tup (handsF 0 procs), .hd S2.length, .hd (S2.length + 1), .hd (S2.length + 2), .hd S4.length] ++ [.hd S6.length] ++ [.lst (procs.map stF)]))) y0
    refine b_asg (hc 1 blF _ _ _ (fun p T => rfl) rfl rfl ?_)
    refine t_fld (x := .hd n) rfl (setF_new z0 (by decide +kernel) rfl (by decide)) ?_
    have z1 := get_set (o' := .ins 0 ((LN6 ++ [("queues" : Str)] ++ [("statements" : Str)] ++ [("blocks" : Str)]).zip ([d, .tup (handsF 0 procs), .hd S2.length, .hd (S2.length + 1), .hd (S2.length + 2), .hd S4.length] ++ [.hd S6.length] ++ [.lst (procs.map stF)] ++ [.lst (procs.map blF)]))) z0
    refine b_asg (hc 2 boF _ _ _ (fun p T => rfl) rfl rfl ?_)
    refine t_fld (x := .hd n) rfl (setF_new z1 (by decide +kernel) rfl (by decide)) (b_nil ?_)
    rw [List.set_set, List.set_set]
    show Q .non (S8.set n (.ins 0 (LN.zip [d, .tup (handsF 0 procs), .hd S2.length, .hd (S2.length + 1), .hd (S2.length + 2), .hd S4.length, .hd S6.length, .lst (procs.map stF), .lst (procs.map blF), .lst (procs.map boF)])))
    have mv : ∀ i o, i ≠ n → S6[i]? = some o → (S8.set n (.ins 0 (LN.zip [d, .tup (handsF 0 procs), .hd S2.length, .hd (S2.length + 1), .hd (S2.length + 2), .hd S4.length, .hd S6.length, .lst (procs.map stF), .lst (procs.map blF), .lst (procs.map boF)])))[i]? = some o := fun i o hi e => get_set_ne (g8.2 _ _ (x2 i o hi e)) (Ne.symm hi)
    refine q _ S2.length (S2.length + 1) (S2.length + 2) S4.length S6.length S5.length ⟨?_, fun i o hi e => mv i o hi (ge6.keep i o hi e)⟩ ⟨get_set y0, mv _ _ (by omega) u1, mv _ _ (by omega) u2, mv _ _ (by omega) u6, mv _ _ (by omega) u3, fun j hj => mv _ _ (by omega) (u4 j hj), get_set_ne (g8.2 _ _ x1) (by omega)⟩
    have := ge6.len
    have := g8.1
    simp
    omega
end K25
set_option Elab.async false
set_option linter.all false
set_option maxRecDepth 100000
set_option maxHeartbeats 1000000
namespace K25
open PySem Mp L2
/-! ### data within blocks -/
theorem Dat.down {n : Nat} {xs : List D} {x : D} (h : Dat n (.tup xs)) (hx : x ∈ xs) : ∃ m, n = m + 1 ∧ Dat m x := by
  cases n with
  | zero => exact h.elim
  | succ m => exact ⟨m, rfl, h.2 x hx⟩
theorem dat_blk {n m : Nat} {y b z : D} (hy : Gs n y) (hd : Dat m y) (hb : b ∈ blkD y) (hz : z ∈ itemsD b) : Dat m z := by
  cases n with
  | zero => rw [blk_leaf hy] at hb; cases hb
  | succ n =>
    have itm : ∀ {k : Nat} {b z : D}, Dat k b → z ∈ itemsD b → k ≤ m → Dat m z := fun {k b z} h1 h2 h3 => by
      cases b with
      | tup ys =>
        obtain ⟨j, rfl, h4⟩ := Dat.down h1 h2
        exact h4.up (by omega)
      | _ => cases h2
    rcases hy with h | ⟨cs, e, rfl, _, _, hc, he⟩ | ⟨bs, rfl, _⟩ | ⟨t, b', rfl, _⟩
    · rw [blk_leaf h] at hb; cases hb
    · rw [blk_if] at hb
      rcases List.mem_append.mp hb with hb | hb
      · obtain ⟨c, hcm, rfl⟩ := List.mem_map.mp hb
        obtain ⟨t, b', rfl, _⟩ := hc c hcm
        obtain ⟨m1, rfl, h1⟩ := Dat.down hd (x := .tup cs) (by simp)
        obtain ⟨m2, rfl, h2⟩ := Dat.down h1 hcm
        obtain ⟨m3, rfl, h3⟩ := Dat.down h2 (x := b') (by simp)
        exact itm h3 hz (by omega)
      · have : b = e := by
          cases e with
          | non => simp [elseD] at hb
          | _ => simpa [elseD] using hb
        subst this
        obtain ⟨m1, rfl, h1⟩ := Dat.down hd (x := b) (by simp)
        exact itm h1 hz (by omega)
    · rw [blk_choose] at hb
      obtain ⟨m1, rfl, h1⟩ := Dat.down hd (x := .tup bs) (by simp)
      obtain ⟨m2, rfl, h2⟩ := Dat.down h1 hb
      exact itm h2 hz (by omega)
    · rw [blk_while, List.mem_singleton] at hb
      subst hb
      obtain ⟨m1, rfl, h1⟩ := Dat.down hd (x := b) (by simp)
      exact itm h1 hz (by omega)
theorem allS_dat {m : Nat} : ∀ {n : Nat} {ys : List D}, (∀ y ∈ ys, Gs n y ∧ Dat m y) → ∀ y ∈ allS n ys, Dat m y
  | 0, ys, h, y, hy => (h y hy).2
  | n + 1, ys, h, y, hy => by
    obtain ⟨z, hz, hy⟩ := List.mem_flatMap.mp hy
    rcases List.mem_cons.mp hy with rfl | hy
    · exact (h y hz).2
    · obtain ⟨b, hb, hy⟩ := List.mem_flatMap.mp hy
      refine allS_dat (n := n) (ys := itemsD b) (fun w hw => ⟨?_, dat_blk (h z hz).1 (h z hz).2 hb hw⟩) y hy
      obtain ⟨_, zs, rfl, _, hzs⟩ := (h z hz).1.blk.2 b hb
      exact hzs w hw
/-- the numbers are numbers -/
def NumD (rec : List D → Int → Nu) (P : D → Prop) : Prop := ∀ (ys : List D) (a : Int), ys.length ≤ 4 → (∀ y ∈ ys, P y) → Dat 1 (.tup (rec ys a).1) ∧ ∀ row ∈ (rec ys a).2.2, Dat 2 (.tup row)
theorem numB_dat {rec : List D → Int → Nu} {P : D → Prop} (h : NumD rec P) : ∀ (bs : List D) (a : Int), (∀ b ∈ bs, GB P b) → (numB rec bs a).1.length = bs.length ∧ (∀ x ∈ (numB rec bs a).1, Dat 1 x) ∧ ∀ row ∈ (numB rec bs a).2.2, Dat 2 (.tup row)
  | [], a, _ => ⟨rfl, fun x hx => (by cases hx), fun x hx => (by cases hx)⟩
  | b :: r, a, hb => by
    obtain ⟨zs, rfl, hz, hz'⟩ := hb b List.mem_cons_self
    obtain ⟨i1, i2, i3⟩ := numB_dat h r (rec zs a).2.1 fun b hm => hb b (List.mem_cons_of_mem _ hm)
    obtain ⟨j1, j2⟩ := h zs a hz hz'
    refine ⟨by simp [numB, itemsD, i1], fun x hx => ?_, fun row hr => ?_⟩
    · rcases List.mem_cons.mp hx with rfl | hx
      · exact j1
      · exact i2 x hx
    · rcases List.mem_append.mp hr with hr | hr
      · exact j2 row hr
      · exact i3 row hr
theorem numL_dat {n : Nat} {rec : List D → Int → Nu} (h : n ≠ 0 → NumD rec (Gs (n - 1))) : NumD (numL rec) (Gs n) := by
  have len : ∀ (ys : List D) (a : Int), (numL rec ys a).1.length = ys.length := fun ys => by
    induction ys with
    | nil => intro a; rfl
    | cons y r ih => intro a; simp [numL, ih]
  have one : ∀ (ys : List D) (a : Int), (∀ y ∈ ys, Gs n y) → (∀ x ∈ (numL rec ys a).1, Dat 0 x) ∧ ∀ row ∈ (numL rec ys a).2.2, Dat 2 (.tup row) := fun ys => by
    induction ys with
    | nil => intro a _; exact ⟨fun x hx => (by cases hx), fun x hx => (by cases hx)⟩
    | cons y r ih =>
      intro a hy
      obtain ⟨b1, b2⟩ := (hy y List.mem_cons_self).blk
      have hB : (numB rec (blkD y) (a + 1)).1.length = (blkD y).length ∧ (∀ x ∈ (numB rec (blkD y) (a + 1)).1, Dat 1 x) ∧ ∀ row ∈ (numB rec (blkD y) (a + 1)).2.2, Dat 2 (.tup row) := by
        by_cases e : blkD y = []
        · rw [e]; exact ⟨rfl, fun x hx => (by cases hx), fun x hx => (by cases hx)⟩
        · have hn : n ≠ 0 := by
            obtain ⟨b, r', e'⟩ := List.exists_cons_of_ne_nil e
            exact (b2 b (by rw [e']; exact List.mem_cons_self)).1
          exact numB_dat (h hn) (blkD y) (a + 1) fun b hm => (b2 b hm).2
      obtain ⟨i1, i2⟩ := ih (numB rec (blkD y) (a + 1)).2.1 fun z hz => hy z (List.mem_cons_of_mem _ hz)
      refine ⟨fun x hx => ?_, fun row hr => ?_⟩
      · rcases List.mem_cons.mp hx with rfl | hx
        · exact dat_i
        · exact i1 x hx
      · rcases List.mem_append.mp hr with hr | hr
        · rcases List.mem_cons.mp hr with rfl | hr
          · exact dat_t (by rw [hB.1]; omega) hB.2.1
          · exact hB.2.2 row hr
        · exact i2 row hr
  intro ys a hl hy
  obtain ⟨o1, o2⟩ := one ys a hy
  exact ⟨dat_t (by rw [len]; omega) o1, o2⟩
theorem num_dat : ∀ n, NumD (num n) (Gs n)
  | 0 => numL_dat (n := 0) fun z => absurd rfl z
  | n + 1 => numL_dat (n := n + 1) fun _ => num_dat n
/-! ### the layout's questions -/
theorem fn_spot : (g fuel).fns f_Layout_spot = ⟨4, 3, b_Layout_spot⟩ := rfl
theorem fn_Lstatement : (g fuel).fns f_Layout_statement = ⟨3, 3, b_Layout_statement⟩ := rfl
theorem fn_parts : (g fuel).fns f_Layout_parts = ⟨3, 3, b_Layout_parts⟩ := rfl
section
variable {S : Sto} {d : D} {vs : List VR} {chs procs : List D} {n F R G Lc Qh lo : Nat}
theorem LayR.ge {S' : Sto} (h : LayR S d vs chs procs n F R G Lc Qh lo) (g : Ge S S') : LayR S' d vs chs procs n F R G Lc Qh lo :=
  ⟨g.2 _ _ h.ob, g.2 _ _ h.first, g.2 _ _ h.ranges, g.2 _ _ h.globals, g.2 _ _ h.locals_, fun j hj => g.2 _ _ (h.own j hj), g.2 _ _ h.queues⟩
theorem LayR.fld (h : LayR S d vs chs procs n F R G Lc Qh lo) : fldP S (.hd n) ("hands" : Str) = some (.tup (handsF 0 procs)) ∧ fldP S (.hd n) ("first" : Str) = some (.hd F) ∧ fldP S (.hd n) ("ranges" : Str) = some (.hd R) ∧ fldP S (.hd n) ("globals" : Str) = some (.hd G) ∧ fldP S (.hd n) ("locals" : Str) = some (.hd Lc) ∧
    fldP S (.hd n) ("queues" : Str) = some (.hd Qh) ∧ fldP S (.hd n) ("statements" : Str) = some (.lst (procs.map stF)) ∧ fldP S (.hd n) ("blocks" : Str) = some (.lst (procs.map blF)) ∧ fldP S (.hd n) ("bodies" : Str) = some (.lst (procs.map boF)) :=
  ⟨fld_at 1 h.ob (by decide +kernel) rfl rfl, fld_at 2 h.ob (by decide +kernel) rfl rfl, fld_at 3 h.ob (by decide +kernel) rfl rfl, fld_at 4 h.ob (by decide +kernel) rfl rfl, fld_at 5 h.ob (by decide +kernel) rfl rfl, fld_at 6 h.ob (by decide +kernel) rfl rfl, fld_at 7 h.ob (by decide +kernel) rfl rfl, fld_at 8 h.ob (by decide +kernel) rfl rfl, fld_at 9 h.ob (by decide +kernel) rfl rfl⟩
/-- statement and parts of a hand -/
theorem sp_statement_ {k i j k' u : Nat} {p y : D} {Q : D → Sto → Prop} (h : LayR S d vs chs procs n F R G Lc Qh lo) (hh : (handsF 0 procs)[i]? = some (.tup [.int (j : Nat), .int (k' : Nat)])) (hp : procs[j]? = some p) (hy : (allS 4 (bodyL p))[u]? = some y) (q : Q y S) :
    wp (run (g fuel) (k + 1) f_Layout_statement [.hd n, .int (i : Nat), .int ((u : Nat) + 1)]) Q S := by
  refine wp_run fn_Lstatement rfl ?_
  show wpB (envOf (g fuel) k) b_Layout_statement [some (.hd n), some (.int (i : Nat)), some (.int ((u : Nat) + 1))] (fun f _ S' => match f with
    | .rt d => Q d S'
    | .nx => Q .non S'
    | _ => False) S
  obtain ⟨f1, _, _, _, _, _, f2, _, _⟩ := h.fld
  have e1 : atI (handsF 0 procs) ((i : Nat) : Int) = some (.tup [.int (j : Nat), .int (k' : Nat)]) := L2.atI_nat hh
  have e2 : atI (procs.map stF) ((j : Nat) : Int) = some (stF p) := L2.atI_nat (by rw [List.getElem?_map, hp]; rfl)
  have e3 : atI (allS 4 (bodyL p)) ((u : Nat) : Int) = some y := L2.atI_nat hy
  have e4 : ((u : Nat) : Int) + 1 - 1 = (u : Nat) := by omega
  refine b_retP y ?_ q
  simp only [pu, f1, f2, Option.bind_some, List.getElem?_cons_zero, List.getElem?_cons_succ, Mp.ix_tup, Mp.ix_lst, e1, at0, e2, bin_sub, e4, e3]
theorem sp_parts {k i j k' u : Nat} {p : D} {row : List D} {Q : D → Sto → Prop} (h : LayR S d vs chs procs n F R G Lc Qh lo) (hh : (handsF 0 procs)[i]? = some (.tup [.int (j : Nat), .int (k' : Nat)])) (hp : procs[j]? = some p) (hy : (num 4 (bodyL p) 1).2.2[u]? = some row) (q : Q (.tup row) S) :
    wp (run (g fuel) (k + 1) f_Layout_parts [.hd n, .int (i : Nat), .int ((u : Nat) + 1)]) Q S := by
  refine wp_run fn_parts rfl ?_
  show wpB (envOf (g fuel) k) b_Layout_parts [some (.hd n), some (.int (i : Nat)), some (.int ((u : Nat) + 1))] (fun f _ S' => match f with
    | .rt d => Q d S'
    | .nx => Q .non S'
    | _ => False) S
  obtain ⟨f1, _, _, _, _, _, _, f2, _⟩ := h.fld
  have e1 : atI (handsF 0 procs) ((i : Nat) : Int) = some (.tup [.int (j : Nat), .int (k' : Nat)]) := L2.atI_nat hh
  have e2 : atI (procs.map blF) ((j : Nat) : Int) = some (blF p) := L2.atI_nat (by rw [List.getElem?_map, hp]; rfl)
  have e3 : atI (tups (num 4 (bodyL p) 1).2.2) ((u : Nat) : Int) = some (.tup row) := L2.atI_nat (by rw [List.getElem?_map, hy]; rfl)
  have e4 : ((u : Nat) : Int) + 1 - 1 = (u : Nat) := by omega
  refine b_retP (.tup row) ?_ q
  simp only [pu, f1, f2, Option.bind_some, List.getElem?_cons_zero, List.getElem?_cons_succ, Mp.ix_tup, Mp.ix_lst, e1, at0, e2, bin_sub, e4, e3]
theorem in_dk {T : Sto} {m : Nat} {kvs : List (Key × D)} {nm : Str} (h : T[m]? = some (.dk kvs)) : cmpP T .in_ (.str nm) (.hd m) = some (valD kvs (.inr nm)).isSome := by
  simp only [cmpP, cmpP.inP, h, keyOf]
theorem ix_dks {T : Sto} {m : Nat} {kvs : List (Key × D)} {nm : Str} (h : T[m]? = some (.dk kvs)) : ixP T (.hd m) (.str nm) = valD kvs (.inr nm) := by simp only [ixP, h, keyOf]
theorem sp_spotN {k : Nat} {nm : Str} {a s : Int} {Q : D → Sto → Prop} (h : LayR S d vs chs procs n F R G Lc Qh lo) (hv : valD (glo 0 vs) (.inr nm) = some (.tup [.int a, .int s])) (q : ∀ S', Ge S S' → Q (.int a) S') :
    wp (run (g fuel) (k + 1) f_Layout_spot [.hd n, .non, .str nm]) Q S := by
  refine wp_run fn_spot rfl ?_
  show wpB (envOf (g fuel) k) b_Layout_spot [some (.hd n), some .non, some (.str nm), none] (fun f _ S' => match f with
    | .rt d => Q d S'
    | .nx => Q .non S'
    | _ => False) S
  refine b_asg ?_
  rw [we_ite]
  simp
  refine t_nm ?_
  have h2 := h.ge (Ge.push (o := Ob.dk []))
  have f := h2.fld.2.2.2.1
  have e1 := in_dk (nm := nm) (get_new (S := S) (o := Ob.dk []))
  have e2 := ix_dks (nm := nm) h2.globals
  rw [hv] at e2
  have e3 : (valD ([] : List (Key × D)) (.inr nm)).isSome = false := rfl
  refine b_retP (.int a) ?_ (q _ Ge.push)
  simp [pu, f, e1, e2, e3]
theorem sp_spotI {k i : Nat} {nm : Str} {x : D} {Q : D → Sto → Prop} (h : LayR S d vs chs procs n F R G Lc Qh lo) (hi : i < (handsF 0 procs).length) (hv : valD (ownF vs procs (handsF 0 procs) i) (.inr nm) = some x ∨ (valD (ownF vs procs (handsF 0 procs) i) (.inr nm) = none ∧ ∃ a s, valD (glo 0 vs) (.inr nm) = some (.tup [.int a, .int s]) ∧ x = .int a)) (q : Q x S) :
    wp (run (g fuel) (k + 1) f_Layout_spot [.hd n, .int (i : Nat), .str nm]) Q S := by
  refine wp_run fn_spot rfl ?_
  show wpB (envOf (g fuel) k) b_Layout_spot [some (.hd n), some (.int (i : Nat)), some (.str nm), none] (fun f _ S' => match f with
    | .rt d => Q d S'
    | .nx => Q .non S'
    | _ => False) S
  have f := h.fld.2.2.2.1
  have f2 := h.fld.2.2.2.2.1
  have e0 : atI (hdsF lo (handsF 0 procs).length) ((i : Nat) : Int) = some (.hd (lo + i)) := L2.atI_nat (by
    unfold hdsF
    rw [List.getElem?_map, List.getElem?_range hi]
    rfl)
  have e1 : ixP S (.hd Lc) (.int ((i : Nat) : Int)) = some (.hd (lo + i)) := by rw [ix_hd h.locals_]; exact e0
  have e2 := in_dk (nm := nm) (h.own i hi)
  have e3 := ix_dks (nm := nm) (h.own i hi)
  have e4 := ix_dks (nm := nm) h.globals
  refine b_set (.hd (lo + i)) (by simp [pu, f2, e1]) (b_retP x ?_ q)
  rcases hv with hv | ⟨hv, a, s, hg, rfl⟩
  · rw [hv] at e2 e3
    simp [pu, f, e2, e3]
  · rw [hv] at e2
    rw [hg] at e4
    simp [pu, f, e2, e4]
end
end K25
set_option Elab.async false
set_option linter.all false
set_option maxRecDepth 100000
set_option maxHeartbeats 1000000
namespace Mp
open PySem L2
section
variable {P : En} {σ : Sl} {S : Sto} {e e1 e2 : E} {a r : Ss} {K : K2}
/-- if not e: .. where e holds -/
theorem b_ifNot (h : wp (evE P e σ) (fun x S1 => truP S1 x = some true ∧ wpB P r σ K S1) S) : wpB P (.cons (.if_ (.not_ e) a .nil) r) σ K S := by
  refine b_ifB ?_
  rw [we_not]
  refine wp_mono h fun x S1 h1 => ⟨true, h1.1, false, rfl, fun z => (by cases z), fun _ => b_end h1.2⟩
/-- if not e1 or not e2: .. where both hold -/
theorem b_ifNot2 (h : wp (evE P e1 σ) (fun x S1 => truP S1 x = some true ∧ wp (evE P e2 σ) (fun y S2 => truP S2 y = some true ∧ wpB P r σ K S2) S1) S) : wpB P (.cons (.if_ (.or_ (.not_ e1) (.not_ e2)) a .nil) r) σ K S := by
  refine b_ifB ?_
  rw [we_or, we_not]
  refine wp_mono h fun x S1 h1 => ⟨true, h1.1, false, rfl, ?_⟩
  rw [if_neg Bool.false_ne_true, we_not]
  exact wp_mono h1.2 fun y S2 h2 => ⟨true, h2.1, false, rfl, fun z => (by cases z), fun _ => b_end h2.2⟩
/-- if c or not e: .. where c does not hold, e does -/
theorem b_ifOrN {c : E} (h : wp (evE P c σ) (fun x S1 => truP S1 x = some false ∧ wp (evE P e2 σ) (fun y S2 => truP S2 y = some true ∧ wpB P r σ K S2) S1) S) : wpB P (.cons (.if_ (.or_ c (.not_ e2)) a .nil) r) σ K S := by
  refine b_if ?_
  rw [wp_test, we_or]
  refine wp_mono h fun x S1 h1 => ⟨false, h1.1, ?_⟩
  rw [if_neg Bool.false_ne_true, we_not]
  exact wp_mono h1.2 fun y S2 h2 => ⟨true, h2.1, false, rfl, by rw [if_neg Bool.false_ne_true]; exact b_end h2.2⟩
/-- if c1 or c2: .. where neither holds -/
theorem b_ifOr {c1 c2 : E} (h : wp (evE P c1 σ) (fun x S1 => truP S1 x = some false ∧ wp (evE P c2 σ) (fun y S2 => truP S2 y = some false ∧ wpB P r σ K S2) S1) S) : wpB P (.cons (.if_ (.or_ c1 c2) a .nil) r) σ K S := by
  refine b_if ?_
  rw [wp_test, we_or]
  refine wp_mono h fun x S1 h1 => ⟨false, h1.1, ?_⟩
  rw [if_neg Bool.false_ne_true]
  exact wp_mono h1.2 fun y S2 h2 => ⟨false, h2.1, by rw [if_neg Bool.false_ne_true]; exact b_end h2.2⟩
end
end Mp
namespace K25
open PySem Mp L2
/-- the hands that there may be, and the names of the processes -/
def hsN : Nat → List D
  | 0 => [.tup [.int 0, .int 0]]
  | 1 => [.tup [.int 0, .int 0], .tup [.int 0, .int 1]]
  | 2 => [.tup [.int 0, .int 0], .tup [.int 1, .int 0]]
  | _ => [.tup [.int 0, .int 0], .tup [.int 0, .int 1], .tup [.int 1, .int 0]]
def nmN : Nat → List Str
  | 0 => [("p" : Str)]
  | 1 => [("p" : Str)]
  | _ => [("p" : Str), ("r" : Str)]
def hitN (names : List Str) (nm : Str) (c : Int) : D → Bool
  | .tup [.int j, .int k] => decide (names[j.toNat]? = some nm) && decide (k = c)
  | _ => false
theorem hit_N {procs : List D} {nm : Str} {c : Int} : hit procs nm c = hitN (procs.map nmD) nm c := by
  funext x
  unfold hit hitN
  split <;> simp
theorem hands_shape {d : D} {vs : List VR} {chs procs : List D} (h : Pr4 d vs chs procs) : ∃ t, t < 4 ∧ handsF 0 procs = hsN t ∧ procs.map nmD = nmN t := by
  obtain ⟨p, cp, own, body, ps, rfl, hp, c1, c2, hps⟩ := h.proc
  obtain ⟨rfl, _, _, _⟩ := hp
  have hc : cp = 1 ∨ cp = 2 := by omega
  rcases hc with rfl | rfl <;> rcases hps with rfl | ⟨r, own', body', rfl, ⟨rfl, _, _, _⟩⟩
  · exact ⟨0, by decide, rfl, rfl⟩
  · exact ⟨2, by decide, rfl, rfl⟩
  · exact ⟨1, by decide, rfl, rfl⟩
  · exact ⟨3, by decide, rfl, rfl⟩
/-- where a copy of a process stands -/
def Due (S : Sto) (hs : List D) (names : List Str) (j c : Nat) : Prop := ∃ nm, names[j]? = some nm ∧
  ((∃ i : Nat, cmpP S .in_ (.tup [.int (j : Nat), .int (c : Nat)]) (.lst hs) = some true ∧ bmP S .index (.lst hs) [.tup [.int (j : Nat), .int (c : Nat)]] = some (.int (i : Nat), S) ∧ hs.findIdx? (hitN names nm c) = some i) ∨
    (cmpP S .in_ (.tup [.int (j : Nat), .int (c : Nat)]) (.lst hs) = some false ∧ hs.findIdx? (hitN names nm c) = none))
theorem due_all (S : Sto) : ∀ t j c : Nat, t < 4 → j < (nmN t).length → c < 4 → Due S (hsN t) (nmN t) j c := by
  intro t j c ht hj hc
  match t, j, c, ht, hj, hc with
  | 0, 0, 0, _, _, _ => exact ⟨"p", rfl, .inl ⟨0, rfl, rfl, by decide +kernel⟩⟩
  | 0, 0, 1, _, _, _ => exact ⟨"p", rfl, .inr ⟨rfl, by decide +kernel⟩⟩
  | 0, 0, 2, _, _, _ => exact ⟨"p", rfl, .inr ⟨rfl, by decide +kernel⟩⟩
  | 0, 0, 3, _, _, _ => exact ⟨"p", rfl, .inr ⟨rfl, by decide +kernel⟩⟩
  | 1, 0, 0, _, _, _ => exact ⟨"p", rfl, .inl ⟨0, rfl, rfl, by decide +kernel⟩⟩
  | 1, 0, 1, _, _, _ => exact ⟨"p", rfl, .inl ⟨1, rfl, rfl, by decide +kernel⟩⟩
  | 1, 0, 2, _, _, _ => exact ⟨"p", rfl, .inr ⟨rfl, by decide +kernel⟩⟩
  | 1, 0, 3, _, _, _ => exact ⟨"p", rfl, .inr ⟨rfl, by decide +kernel⟩⟩
  | 2, 0, 0, _, _, _ => exact ⟨"p", rfl, .inl ⟨0, rfl, rfl, by decide +kernel⟩⟩
  | 2, 0, 1, _, _, _ => exact ⟨"p", rfl, .inr ⟨rfl, by decide +kernel⟩⟩
  | 2, 0, 2, _, _, _ => exact ⟨"p", rfl, .inr ⟨rfl, by decide +kernel⟩⟩
  | 2, 0, 3, _, _, _ => exact ⟨"p", rfl, .inr ⟨rfl, by decide +kernel⟩⟩
  | 2, 1, 0, _, _, _ => exact ⟨"r", rfl, .inl ⟨1, rfl, rfl, by decide +kernel⟩⟩
  | 2, 1, 1, _, _, _ => exact ⟨"r", rfl, .inr ⟨rfl, by decide +kernel⟩⟩
  | 2, 1, 2, _, _, _ => exact ⟨"r", rfl, .inr ⟨rfl, by decide +kernel⟩⟩
  | 2, 1, 3, _, _, _ => exact ⟨"r", rfl, .inr ⟨rfl, by decide +kernel⟩⟩
  | 3, 0, 0, _, _, _ => exact ⟨"p", rfl, .inl ⟨0, rfl, rfl, by decide +kernel⟩⟩
  | 3, 0, 1, _, _, _ => exact ⟨"p", rfl, .inl ⟨1, rfl, rfl, by decide +kernel⟩⟩
  | 3, 0, 2, _, _, _ => exact ⟨"p", rfl, .inr ⟨rfl, by decide +kernel⟩⟩
  | 3, 0, 3, _, _, _ => exact ⟨"p", rfl, .inr ⟨rfl, by decide +kernel⟩⟩
  | 3, 1, 0, _, _, _ => exact ⟨"r", rfl, .inl ⟨2, rfl, rfl, by decide +kernel⟩⟩
  | 3, 1, 1, _, _, _ => exact ⟨"r", rfl, .inr ⟨rfl, by decide +kernel⟩⟩
  | 3, 1, 2, _, _, _ => exact ⟨"r", rfl, .inr ⟨rfl, by decide +kernel⟩⟩
  | 3, 1, 3, _, _, _ => exact ⟨"r", rfl, .inr ⟨rfl, by decide +kernel⟩⟩
theorem nobody_all : ∀ t, t < 4 → (hsN t).findIdx? (hitN (nmN t) "nobody" 0) = none := by
  intro t ht
  match t, ht with
  | 0, _ => decide +kernel
  | 1, _ => decide +kernel
  | 2, _ => decide +kernel
  | 3, _ => decide +kernel
theorem hands_dat {d : D} {vs : List VR} {chs procs : List D} (h : Pr4 d vs chs procs) : Dat 2 (.tup (handsF 0 procs)) := by
  obtain ⟨t, ht, e, _⟩ := hands_shape h
  rw [e]
  match t, ht with
  | 0, _ => exact dat1 (dat2 dat_i dat_i)
  | 1, _ => exact dat2 (dat2 dat_i dat_i) (dat2 dat_i dat_i)
  | 2, _ => exact dat2 (dat2 dat_i dat_i) (dat2 dat_i dat_i)
  | 3, _ => exact dat3 (dat2 dat_i dat_i) (dat2 dat_i dat_i) (dat2 dat_i dat_i)
theorem stF_dat {d : D} {vs : List VR} {chs procs : List D} (h : Pr4 d vs chs procs) {p : D} (hp : p ∈ procs) : Dat 25 (stF p) := by
  obtain ⟨nm, cp, own, body, ⟨rfl, _, bl, bg⟩, _, _⟩ := h.procs.2 p hp
  have h1 := allS_len bl fun y hy => (bg y hy).1
  have h2 := cnt_le (n := 4) (by decide)
  exact dat_t (by show (allS 4 body).length ≤ _; omega) (allS_dat bg)
theorem fn_are : (g fuel).fns f_are_hands = ⟨6, 2, b_are_hands⟩ := rfl
theorem sp_are {k : Nat} {d t : D} {vs : List VR} {chs procs : List D} {S : Sto} {Q : D → Sto → Prop} {m R A B C lo : Nat} {as bs : List D} (h : Pr4 d vs chs procs) (T : ToldR S d vs procs m R A B C lo as bs t) (q : ∀ S', Ge S S' → Q (.bl true) S') : wp (run (g fuel) (k + 27) f_are_hands [d, t]) Q S := by
  refine wp_run fn_are rfl ?_
  show wpB (envOf (g fuel) (k + 26)) b_are_hands [some d, some t, none, none, none, none] (fun f _ S' => match f with
    | .rt d => Q d S'
    | .nx => Q .non S'
    | _ => False) S
  have hT := T
  obtain ⟨ht, _⟩ := T
  obtain ⟨sh, hsh, hs1, hs2⟩ := hands_shape h
  obtain ⟨hpl, hpp⟩ := h.procs
  have hP := h
  obtain ⟨hd, _, _, _⟩ := h
  refine b_ifNot ?_
  simp
  refine sp_hands (k := k + 25) hP ?_
  simp [ht]
  refine sp_alike 2 (k + 23) _ _ _ (hands_dat hP) ⟨rfl, ?_⟩
  refine b_for ?_
  refine wi_enT (xs := procs) ?_
  refine wp_pu (d := .tup procs) (by simp [pu, hd]) ⟨.inl rfl, ?_⟩
  refine wp_for_en (fun i σ S' => Ge S S' ∧ ∃ o2 o3 o4 o5, σ = [some d, some t, o2, o3, o4, o5]) ⟨Ge.refl _, _, _, _, _, by rw [ht]⟩ ?_ ?_
  · rintro j p σ S1 hx ⟨ge, o2, o3, o4, o5, rfl⟩
    have T1 := hT.ge ge
    have hpm := List.mem_of_getElem? hx
    obtain ⟨a, b, ha, hb, tr⟩ := T1.rows.get hx
    obtain ⟨⟨ia, rfl, _, ha2⟩, _⟩ := tr
    have hjl : j < (nmN sh).length := by rw [← hs2, List.length_map]; exact (List.getElem?_eq_some_iff.mp hx).1
    have sd := stF_dat hP hpm
    obtain ⟨nm, cp, own, body, ⟨rfl, _, bl, bg⟩, _, _⟩ := hpp p hpm
    refine t_tp (t_tpC (t_nm (t_tpC (t_nm (t_tpN ?_)))))
    show wpB (envOf (g fuel) (k + 26)) _ _ (fun f σ S => Turn1 (f, σ) S _ _) S1
    refine b_ifNot ?_
    simp
    refine sp_all 4 (k + 20) (by decide) body S1 _ bl (fun y hy => (bg y hy).1) fun hh S2 hh1 hh2 g2 => ?_
    have T2 := T1.ge g2
    refine ⟨_, ⟨_, seq_hd hh2, rfl⟩, ?_⟩
    have e1 : atI as ((j : Nat) : Int) = some (.hd ia) := L2.atI_nat ha
    simp [ht]
    refine ⟨_, (ix_hd T2.st).trans e1, _, ⟨_, seq_hd (g2.2 _ _ ha2), rfl⟩, ?_⟩
    refine sp_alike 25 k _ _ _ sd ⟨rfl, ?_⟩
    refine b_for ?_
    refine wi_rng1 ?_
    refine wp_pu (d := .int 4) rfl ⟨4, rfl, by decide, ?_⟩
    refine wp_for_rg (fun c σ S' => S' = S2 ∧ ∃ o4 o5, σ = [some d, some t, some (.int (j : Nat)), some (.tup [.str ("process" : Str), .str nm, .int cp, .tup own, .tup body]), o4, o5]) ⟨rfl, _, _, by rw [ht]⟩ ?_ ?_
    · rintro c σ S3 hc ⟨rfl, o4, o5, rfl⟩
      rw [Int.zero_add]
      refine t_nm ?_
      show wpB (envOf (g fuel) (k + 26)) _ _ (fun f σ S => Turn1 (f, σ) S _ _) S3
      obtain ⟨nm', hn1, hdue⟩ := due_all S3 sh j c hsh hjl hc
      have hnm : nm' = nm := by
        have : (procs.map nmD)[j]? = some nm := by rw [List.getElem?_map, hx]; rfl
        rw [hs2, hn1] at this
        exact Option.some.inj this
      subst hnm
      rw [← hs1] at hdue
      have hnum_ : hnum procs nm' (c : Nat) = match (handsF 0 procs).findIdx? (hitN (nmN sh) nm' (c : Nat)) with
        | some i => .int (i : Nat)
        | none => .non := by
        unfold hnum
        rw [hit_N, hs2]
        all_goals rfl
      have step : ∀ (K : K2) (due : D), (∀ o4 o5, K .nx [some d, some t, some (.int (j : Nat)), some (.tup [.str ("process" : Str), .str nm', .int cp, .tup own, .tup body]), o4, o5] S3) → Dat 0 due → hnum procs nm' (c : Nat) = due → wpB (envOf (g fuel) (k + 26)) (.cons (.if_ (.not_ (.call f_alike (.cons (.call f_hand_number (.cons (.loc 0) (.cons (.ix (.loc 3) (.cst (.int (1)))) (.cons (.loc 4) .nil)))) (.cons (.loc 5) .nil))))
        (.cons (.ret (.yes (.cst (.bl false))))
        .nil)
        .nil)
      .nil) [some d, some t, some (.int (j : Nat)), some (.tup [.str ("process" : Str), .str nm', .int cp, .tup own, .tup body]), some (.int (c : Nat)), some due] K S3 := fun K due hK hdat hdu => by
        refine b_ifNot ?_
        simp
        refine sp_handnum (k := k + 24) hP ?_
        rw [hdu]
        refine sp_alike 0 (k + 25) _ _ _ hdat ⟨rfl, b_nil (hK _ _)⟩
      refine b_asg ?_
      rw [we_ite]
      rcases hdue with ⟨i, h1, h2, h3⟩ | ⟨h1, h3⟩
      · refine wp_pu (d := .bl true) (by simp [pu, puEs, ht, sl2, h1]) ⟨true, rfl, ?_⟩
        rw [if_pos rfl, we_bm]
        refine wp_pu (d := .lst (handsF 0 procs)) (by simp [pu, ht]) ⟨(), rfl, ?_⟩
        refine wp_puEs (ds := [.tup [.int (j : Nat), .int (c : Nat)]]) (by simp [pu, puEs, sl2]) ⟨_, _, h2, t_nm ?_⟩
        exact step _ (.int (i : Nat)) (fun o4 o5 => ⟨rfl, _, _, rfl⟩) dat_i (by rw [hnum_, h3])
      · refine wp_pu (d := .bl false) (by simp [pu, puEs, ht, sl2, h1]) ⟨false, rfl, ?_⟩
        rw [if_neg Bool.false_ne_true, we_cst]
        exact t_nm (step _ .non (fun o4 o5 => ⟨rfl, _, _, rfl⟩) dat_n (by rw [hnum_, h3]))
    · rintro σ S3 ⟨rfl, o4, o5, rfl⟩
      exact then_nx (b_nil ⟨ge.trans g2, some (.int (j : Nat)), some (.tup [.str ("process" : Str), .str nm, .int cp, .tup own, .tup body]), o4, o5, by rw [ht]⟩)
  · rintro σ S1 ⟨ge, o2, o3, o4, o5, rfl⟩
    refine then_nx (b_ret ?_)
    simp
    refine sp_handnum (k := k + 24) hP ?_
    have e : hnum procs "nobody" 0 = .non := by
      unfold hnum
      rw [hit_N, hs2, hs1, nobody_all sh hsh]
    rw [e]
    exact .inr ⟨rfl, q _ ge⟩
end K25
set_option Elab.async false
set_option linter.all false
set_option maxRecDepth 100000
set_option maxHeartbeats 1000000
namespace Mp
open PySem L2
/-! ### sorted names -/
theorem keyInts_strs {kvs : List (Key × D)} {x : Str} {ks : List Str} (h : kvs.map Prod.fst = (x :: ks).map Sum.inr) : keyInts kvs = none := by
  cases kvs with
  | nil => cases h
  | cons kv r =>
    obtain ⟨k, v⟩ := kv
    have : k = .inr x := (List.cons.inj h).1
    subst this
    rfl
theorem keyStrs_ok : ∀ {kvs : List (Key × D)} {ks : List Str}, kvs.map Prod.fst = ks.map Sum.inr → keyStrs kvs = some ks
  | [], [], _ => rfl
  | [], _ :: _, h => by cases h
  | _ :: _, [], h => by cases h
  | (k, v) :: r, x :: ks, h => by
    have h1 : k = .inr x := (List.cons.inj h).1
    have h2 := (List.cons.inj h).2
    subst h1
    show (keyStrs r).map (x :: ·) = _
    rw [keyStrs_ok h2]
    rfl
theorem strs_ok : ∀ (ks : List Str), strsOf (ks.map D.str) = some ks
  | [] => rfl
  | x :: r => by
    show (strsOf (r.map D.str)).map (x :: ·) = _
    rw [strs_ok r]
    rfl
section
variable {S : Sto} {m : Nat} {kvs : List (Key × D)} {ks : List Str}
theorem sorted_dk (h : S[m]? = some (.dk kvs)) (hk : kvs.map Prod.fst = ks.map Sum.inr) (hl : ks.length < 64) : bfP S .sorted [.hd m] = some ((sortT ks).map D.str) := by
  have h1 : lstOf S (.hd m) = none := by simp only [lstOf, h]
  have h2 : dkOf S (.hd m) = some kvs := by simp only [dkOf, h]
  simp only [bfP, h1, h2]
  cases ks with
  | nil =>
    have : kvs = [] := List.map_eq_nil_iff.mp hk
    subst this
    simp [keyInts, sortI, sortT]
  | cons x r =>
    rw [keyInts_strs hk, keyStrs_ok hk]
    simp only [if_pos hl]
theorem sorted_lst (hl : ks.length < 64) : bfP S .sorted [.lst (ks.map D.str)] = some ((sortT ks).map D.str) := by
  simp only [bfP, lst_lst]
  cases ks with
  | nil => simp [intsOf, sortI, sortT]
  | cons x r =>
    have : intsOf ((x :: r).map D.str) = none := rfl
    rw [this, strs_ok]
    simp only [if_pos hl]
theorem toPs_strs {g : Nat → Option PyData} : ∀ (xs : List Str), toPs g (xs.map D.str) = some (xs.map PyData.str)
  | [] => rfl
  | x :: r => by simp [toPs, toP, toPs_strs r]
theorem lay_strs : ∀ {xs : List Str}, (∀ x ∈ xs, PyData.strOk x = true) → PyData.canLayAll0 (xs.map PyData.str) = true
  | [], _ => rfl
  | x :: r, h => by
    have h1 := h x List.mem_cons_self
    have h2 := lay_strs (xs := r) fun y hy => h y (List.mem_cons_of_mem _ hy)
    simp [PyData.canLayAll0, PyData.canLay0, h1, h2]
theorem depth_strs : ∀ {xs : List Str}, PyData.depthAll (xs.map PyData.str) = 0
  | [] => rfl
  | x :: r => by simp [PyData.depthAll, PyData.depth, depth_strs (xs := r)]
theorem eqv_strs : ∀ {xs : List Str}, PyData.eqvAll (xs.map PyData.str) (xs.map PyData.str) = true
  | [] => by simp [PyData.eqvAll]
  | x :: r => by simp [PyData.eqvAll, PyData.eqv, eqv_strs (xs := r)]
theorem ne_strs {xs : List Str} (h : ∀ x ∈ xs, PyData.strOk x = true) : cmpP S .ne (.lst (xs.map D.str)) (.lst (xs.map D.str)) = some false := by
  have h1 : datP S (.lst (xs.map D.str)) = some (.list (xs.map PyData.str)) := by
    unfold datP
    simp [toP, toPs_strs]
  simp [cmpP, h1, SeqAt.shaped, PyData.canLay0, lay_strs h, PyData.depth, depth_strs, PyData.eqv, eqv_strs]
theorem mem_sortT {x : Str} : x ∈ sortT ks ↔ x ∈ ks := by
  unfold sortT
  exact List.mem_mergeSort
/-- the names of a dict are those of a list -/
theorem ne_sorted (hk : ∀ x ∈ ks, PyData.strOk x = true) : cmpP S .ne (.lst ((sortT ks).map D.str)) (.lst ((sortT ks).map D.str)) = some false := ne_strs fun x hx => hk x (mem_sortT.mp hx)
end
theorem valD_none {x : Str} : ∀ {kvs : List (Key × D)}, (∀ kv ∈ kvs, kv.1 ≠ .inr x) → valD kvs (.inr x) = none
  | [], _ => rfl
  | kv :: r, h => by
    have h1 := h kv List.mem_cons_self
    have h2 := valD_none (kvs := r) (x := x) fun kv hk => h kv (List.mem_cons_of_mem _ hk)
    unfold valD at h2 ⊢
    rw [List.find?_cons_of_neg (by rw [decide_eq_true_eq]; exact h1)]
    exact h2
end Mp
namespace K25
open PySem Mp L2
theorem glo_val : ∀ {n : Nat} {vs : List VR} {v : VR}, v ∈ vs → ∃ (a : Nat) (s : Int), valD (glo n vs) (.inr v.nm) = some (.tup [.int (a : Nat), .int s])
  | n, u :: r, v, h => by
    by_cases e : u.nm = v.nm
    · refine ⟨n, u.size, ?_⟩
      unfold valD
      rw [glo, List.find?_cons_of_pos (by rw [decide_eq_true_eq]; exact congrArg Sum.inr e)]
      rfl
    · have hv : v ∈ r := by
        rcases List.mem_cons.mp h with rfl | h
        · exact absurd rfl e
        · exact h
      obtain ⟨a, s, h2⟩ := glo_val (n := n + wid u) hv
      refine ⟨a, s, ?_⟩
      unfold valD at h2 ⊢
      rw [glo, List.find?_cons_of_neg (by rw [decide_eq_true_eq]; exact fun z => e (Sum.inr.inj z))]
      exact h2
theorem glo_keys : ∀ {n : Nat} {vs : List VR}, (glo n vs).map Prod.fst = (vs.map VR.nm).map Sum.inr
  | _, [] => rfl
  | n, u :: r => by simp [glo, glo_keys (n := n + wid u) (vs := r)]
theorem nm_ok {d : D} {vs : List VR} {chs procs : List D} (h : Pr4 d vs chs procs) : ∀ x ∈ vs.map VR.nm, PyData.strOk x = true := by
  obtain ⟨hi, ys, ts, rfl, hy, ht⟩ := h.vars
  have n1 : PyData.strOk ("x" : Str) = true ∧ PyData.strOk ("y" : Str) = true ∧ PyData.strOk ("t" : Str) = true := ⟨by decide +kernel, by decide +kernel, by decide +kernel⟩
  rcases hy with rfl | ⟨i, rfl⟩ <;> rcases ht with rfl | rfl <;> simp [n1]
theorem v_ok : PyData.strOk ("v" : Str) = true := by decide +kernel
theorem q_ok : PyData.strOk ("q" : Str) = true := by decide +kernel
theorem queF_keys {d : D} {vs : List VR} {chs procs : List D} (h : Pr4 d vs chs procs) : (queF chs).map Prod.fst = (chs.map nmD).map Sum.inr ∧ (∀ x ∈ chs.map nmD, PyData.strOk x = true) ∧ chs.length < 64 := by
  rcases h.chans with rfl | ⟨s, rfl⟩
  · exact ⟨rfl, fun x hx => (by cases hx), by decide⟩
  · exact ⟨rfl, fun x hx => by rw [List.mem_singleton.mp hx]; exact q_ok, by simp⟩
/-- no own variable has a shared one's name -/
theorem own_none {d : D} {vs : List VR} {chs procs : List D} (h : Pr4 d vs chs procs) {i : Nat} {v : VR} (hv : v ∈ vs) (hi : i < (handsF 0 procs).length) : valD (ownF vs procs (handsF 0 procs) i) (.inr v.nm) = none := by
  obtain ⟨j, k, p, nm, cp, own, body, e, _, _, eo, ho⟩ := own_hand h (List.getElem_mem hi)
  have hn := (h.names.2.2 v hv).1
  have eg : (handsF 0 procs).getD i .non = (handsF 0 procs)[i] := by rw [List.getD_eq_getElem?_getD, List.getElem?_eq_getElem hi]; rfl
  refine valD_none fun kv hk => ?_
  unfold ownF ownK at hk
  rw [eg, eo] at hk
  rcases ho with rfl | ⟨u, rfl⟩
  · cases hk
  · rw [List.map_singleton, List.mem_singleton] at hk
    subst hk
    exact fun z => hn (Sum.inr.inj z).symm
end K25
set_option Elab.async false
set_option linter.all false
set_option maxRecDepth 100000
set_option maxHeartbeats 1000000
namespace Mp
open PySem L2
section
variable {P : En} {σ : Sl} {S : Sto} {e e1 e2 c : E} {a r : Ss} {K : K2}
/-- a call with plain arguments -/
theorem we_callP {f : Nat} {es : Es} {ds : List D} {Q : D → Sto → Prop} (h : puEs es σ S = some ds) (q : wp (P.call f ds) Q S) : wp (evE P (.call f es) σ) Q S := by
  rw [we_call]
  exact wp_puEs h q
/-- if c and not e: .. where c does not hold or e does -/
theorem b_ifAndN (h : wp (evE P c σ) (fun x S1 => ∃ k, truP S1 x = some k ∧ if k = true then wp (evE P e σ) (fun y S2 => truP S2 y = some true ∧ wpB P r σ K S2) S1 else wpB P r σ K S1) S) : wpB P (.cons (.if_ (.and_ c (.not_ e)) a .nil) r) σ K S := by
  refine b_if ?_
  rw [wp_test, we_and]
  refine wp_mono h fun x S1 h1 => ?_
  obtain ⟨k, h1, h2⟩ := h1
  cases k with
  | true =>
    rw [if_pos rfl] at h2
    refine ⟨true, h1, ?_⟩
    rw [if_pos rfl, we_not]
    exact wp_mono h2 fun y S2 h2 => ⟨true, h2.1, false, rfl, by rw [if_neg Bool.false_ne_true]; exact b_end h2.2⟩
  | false =>
    rw [if_neg Bool.false_ne_true] at h2
    refine ⟨false, h1, ?_⟩
    rw [if_neg Bool.false_ne_true]
    exact ⟨false, h1, by rw [if_neg Bool.false_ne_true]; exact b_end h2⟩
/-- the names of rows -/
theorem names_comp {xs : List D} {ks : List Str} {Q : D → Sto → Prop} (he : pu e σ S = some (.tup xs)) (hx : ∀ (i : Nat) x, xs[i]? = some x → ∃ s, ks[i]? = some s ∧ ∀ T, ixP T x (.int 1) = some (.str s)) (hl : xs.length = ks.length) (h9 : ks.length ≤ 1000) (hs : 2 < σ.length) (q : Q (.lst (ks.map D.str)) S) : wp (evE P (.comp false [2] (.nm 2) (.seq e) .no (.ix (.loc 2) (.cst (.int 1)))) σ) Q S := by
  rw [we_comp]
  refine wi_seqT (xs := xs) (wp_pu he ⟨.inl rfl, ?_⟩)
  refine wp_comp_st (fun i acc S' => S' = S ∧ acc = (ks.take i).map D.str) ⟨rfl, rfl⟩ ?_ ?_
  · rintro i x acc S' hi ⟨rfl, rfl⟩
    obtain ⟨s, h1, h2⟩ := hx i x hi
    refine t_nm ?_
    simp only [wc_no, if_true]
    refine wp_pu (d := .str s) (by simp [pu, wipeD, hs, h2]) ⟨rfl, ?_⟩
    have e3 : ks.take (i + 1) = ks.take i ++ [s] := by rw [List.take_add_one, h1]; rfl
    rw [e3, List.map_append]
    rfl
  · rintro acc S' ⟨rfl, rfl⟩
    have e4 : ks.take xs.length = ks := by rw [hl, List.take_length]
    rw [e4]
    refine ⟨?_, q⟩
    rw [List.length_map]
    exact Nat.le_trans h9 (by decide)
theorem wc_loop {es : List D} {own : List Nat} {t : T} {it : Mp.It} {Q : D → Sto → Prop} (h : wp (evIt P it σ) (fun src S1 => src = .st es ∧ wp (atCap (.st es) P.fuel fun k => loopC (.st es) (fun x => evT P t x (wipeD σ own)) (fun σ => evC P .no σ) (fun σ => evE P e σ) k 0) (fun ds S2 => ds.length ≤ sizeLine ∧ Q (.lst ds) S2) S1) S) : wp (evE P (.comp false own t it .no e) σ) Q S := by
  rw [we_comp]
  refine wp_mono h fun src S1 h1 => ?_
  obtain ⟨rfl, h1⟩ := h1
  exact h1
end
end Mp
namespace K25
open PySem Mp L2
/-- all of true answers -/
theorem all_ok {S : Sto} {n : Nat} : biP S .all [.lst (List.replicate n (.bl true))] = some (.bl true) := by
  simp [biP, lstOf, bls_true, all_true]
section
variable {S : Sto} {d t : D} {vs : List VR} {chs procs : List D} {n F R G Lc Qh lo m R' A B C lo' : Nat} {as bs : List D}
theorem first_dat (h : Pr4 d vs chs procs) : Dat 1 (.tup (fstV vs ++ fstH procs (handsF 0 procs))) := by
  have hn := handsN h
  have fv := fstV_len fun v hv => (h.names.2.2 v hv).2
  have h3 := h.names.2.1
  have fh := (fstH_len h (i := (handsF 0 procs).length)).1
  rw [List.take_length] at fh
  refine dat_t (by rw [List.length_append]; omega) fun x hx => ?_
  rcases List.mem_append.mp hx with hx | hx
  · obtain ⟨v, _, hx⟩ := List.mem_flatMap.mp hx
    rw [List.eq_of_mem_replicate hx]
    exact dat_i
  · obtain ⟨y, hy, hx⟩ := List.mem_flatMap.mp hx
    obtain ⟨j, k, p, nm, cp, own, body, rfl, _, _, eo, ho⟩ := own_hand h hy
    rw [eo] at hx
    rcases ho with rfl | ⟨u, rfl⟩
    · cases hx
    · rw [List.map_singleton, List.mem_singleton] at hx
      rw [hx]
      exact dat_i
theorem rng_dat (h : Pr4 d vs chs procs) : Dat 2 (.tup (rngV vs ++ rngH procs (handsF 0 procs))) := by
  have hn := handsN h
  have fv := rngV_len fun v hv => (h.names.2.2 v hv).2
  have h3 := h.names.2.1
  have fh := (fstH_len h (i := (handsF 0 procs).length)).2
  rw [List.take_length] at fh
  refine dat_t (by rw [List.length_append]; omega) fun x hx => ?_
  rcases List.mem_append.mp hx with hx | hx
  · obtain ⟨v, _, hx⟩ := List.mem_flatMap.mp hx
    rw [List.eq_of_mem_replicate hx]
    exact dat2 dat_i dat_i
  · obtain ⟨y, hy, hx⟩ := List.mem_flatMap.mp hx
    obtain ⟨j, k, p, nm, cp, own, body, rfl, _, _, eo, ho⟩ := own_hand h hy
    rw [eo] at hx
    rcases ho with rfl | ⟨u, rfl⟩
    · cases hx
    · rw [List.map_singleton, List.mem_singleton] at hx
      rw [hx]
      exact dat2 dat_i dat_i
theorem ToldR.last (T : ToldR S d vs procs m R' A B C lo' as bs t) : S[m + (handsF 0 procs).length]? = some (.dk (glo 0 vs)) := by
  rw [T.cells _ (Nat.lt_succ_self _)]
  unfold cellF ownK
  rw [List.getD_eq_getElem?_getD, List.getElem?_eq_none (Nat.le_refl _)]
  simp [ownH]
theorem hds_last {j : Nat} : atI (hdsF m (j + 1)) (-1) = some (.hd (m + j)) := by
  rw [hdsF_succ]
  exact atI_snoc
end
end K25
set_option Elab.async false
set_option linter.all false
set_option maxRecDepth 100000
set_option maxHeartbeats 1000000
namespace K25
open PySem Mp L2
theorem fd_spot : findDf ("Layout", some ("spot" : Str)) L.ds 0 = some f_Layout_spot := by decide +kernel
theorem mt_spot {fuel k : Nat} : (envOf (g fuel) k).meth 0 ("spot" : Str) = some f_Layout_spot := fd_spot
theorem fd_statement : findDf ("Layout", some ("statement" : Str)) L.ds 0 = some f_Layout_statement := by decide +kernel
theorem mt_statement {fuel k : Nat} : (envOf (g fuel) k).meth 0 ("statement" : Str) = some f_Layout_statement := fd_statement
theorem fd_parts : findDf ("Layout", some ("parts" : Str)) L.ds 0 = some f_Layout_parts := by decide +kernel
theorem mt_parts {fuel k : Nat} : (envOf (g fuel) k).meth 0 ("parts" : Str) = some f_Layout_parts := fd_parts
theorem no_spot : ("spot" : Str) ∉ LN ∧ ("statement" : Str) ∉ LN ∧ ("parts" : Str) ∉ LN := by decide +kernel
theorem ini_Layout {fuel k : Nat} : (envOf (g fuel) k).ini 0 = some f_Layout_init := by rfl
section
variable {S : Sto} {d t : D} {vs : List VR} {chs procs : List D} {w F R G Lc Qh lo m R' A B C lo' : Nat} {as bs : List D} {c0 o2 o5 o6 o7 o8 o9 o10 o11 : Option D}
/-- once: the shared variables -/
theorem once_vars {k : Nat} {r : Ss} {K : K2} (h : Pr4 d vs chs procs) (T : ToldR S d vs procs m R' A B C lo' as bs t) (Y : LayR S d vs chs procs w F R G Lc Qh lo)
    (q : ∀ S' o2, Ge S S' → wpB (envOf (g fuel) (k + 27)) r [c0, some d, o2, some t, some (.hd w), o5, o6, o7, o8, o9, o10, o11] K S') :
    wpB (envOf (g fuel) (k + 27)) (.cons (.for_ (.nm 2) (.seq (.ix (.loc 1) (.cst (.int (1)))))
    (.cons (.if_ (.not_ (.call f_alike (.cons (.bi .tuple (.cons (.ix (.fld (.loc 4) ("globals" : Str)) (.ix (.loc 2) (.cst (.int (1))))) .nil)) (.cons (.ix (.ix (.ix (.loc 3) (.cst (.int (2)))) (.neg (.cst (.int (1))))) (.ix (.loc 2) (.cst (.int (1))))) .nil))))
      (.cons (.ret (.yes (.cst (.bl false))))
      .nil)
      .nil)
    (.cons (.if_ (.and_ (.cmp .eq (.ix (.loc 2) (.cst (.int (2)))) (.cst (.int (0)))) (.not_ (.bi .all (.cons (.comp false [6] (.nm 6) (.seq (.lst false (.cons (.cst .non) (.cons (.cst (.int (0))) .nil)))) .no (.call f_alike (.cons (.meth (.loc 4) ("spot" : Str) (.cons (.loc 6) (.cons (.ix (.loc 2) (.cst (.int (1)))) .nil))) (.cons (.ix (.ix (.ix (.ix (.loc 3) (.cst (.int (2)))) (.neg (.cst (.int (1))))) (.ix (.loc 2) (.cst (.int (1))))) (.cst (.int (0)))) .nil)))) .nil))))
      (.cons (.ret (.yes (.cst (.bl false))))
      .nil)
      .nil)
    .nil))) r) [c0, some d, o2, some t, some (.hd w), o5, o6, o7, o8, o9, o10, o11] K S := by
  have hd := h.eq
  refine b_for ?_
  refine wi_seqT (xs := vs.map VR.d) ?_
  refine wp_pu (d := .tup (vs.map VR.d)) (by simp [pu, hd]) ⟨.inl rfl, ?_⟩
  refine wp_for_st (fun i σ S' => Ge S S' ∧ ∃ o2, σ = [c0, some d, o2, some t, some (.hd w), o5, o6, o7, o8, o9, o10, o11]) ⟨Ge.refl _, _, rfl⟩ ?_ ?_
  · rintro i x σ S1 hx ⟨ge, o2, rfl⟩
    rw [List.getElem?_map] at hx
    obtain ⟨v, hv, rfl⟩ := Option.map_eq_some_iff.mp hx
    have hvm := List.mem_of_getElem? hv
    obtain ⟨a, s, hg⟩ := glo_val (n := 0) hvm
    refine t_nm ?_
    show wpB (envOf (g fuel) (k + 27)) _ _ (fun f σ S => Turn1 (f, σ) S _ _) S1
    -- what stands at every later store
    have facts : ∀ S2, Ge S S2 → fldP S2 (.hd w) ("globals" : Str) = some (.hd G) ∧ ixP S2 (.hd G) (.str v.nm) = some (.tup [.int (a : Nat), .int s]) ∧ ixP S2 t (.int 2) = some (.lst (hdsF m ((handsF 0 procs).length + 1))) ∧ ixP S2 (.hd (m + (handsF 0 procs).length)) (.str v.nm) = some (.tup [.int (a : Nat), .int s]) ∧ ixP S2 v.d (.int 1) = some (.str v.nm) ∧ ixP S2 v.d (.int 2) = some (.int v.size) := fun S2 g2 => by
      have T2 := T.ge g2
      have Y2 := Y.ge g2
      refine ⟨Y2.fld.2.2.2.1, by rw [ix_dks Y2.globals, hg], by rw [T2.eq]; rfl, by rw [ix_dks T2.last, hg], rfl, rfl⟩
    obtain ⟨f1, f2, f3, f4, f5, f6⟩ := facts S1 ge
    refine b_ifNot (we_callP (ds := [.tup [.int (a : Nat), .int s], .tup [.int (a : Nat), .int s]]) (by simp [pu, puEs, f1, f2, f3, f4, f5, hds_last]) ?_)
    refine sp_alike 1 (k + 25) _ _ _ (dat2 dat_i dat_i) ⟨rfl, ?_⟩
    refine b_ifAndN (wp_pu (d := .bl (decide (v.size = 0))) (by simp [pu, f6]) ⟨_, rfl, ?_⟩)
    split
    · rw [we_bi]
      simp only [wes_cons, wes_nil]
      refine wc_loop (es := [.non, .int 0]) (wi_seqT (xs := [.non, .int 0]) (wp_pu (d := .lst [.non, .int 0]) (by simp [pu, puEs, sl2]) ⟨.inr rfl, rfl, ?_⟩))
      refine wp_comp_st (fun i acc S' => Ge S S' ∧ acc = List.replicate i (.bl true)) ⟨ge, rfl⟩ ?_ ?_
      · rintro i x acc S2 hx ⟨g2, rfl⟩
        refine t_nm ?_
        simp only [wc_no, if_true]
        rw [we_call]
        simp only [wes_cons, wes_nil]
        refine we_meth (wp_pu (d := .hd w) rfl ⟨w, 0, _, f_Layout_spot, rfl, (Y.ge g2).ob, zip_none no_spot.1, mt_spot, ?_⟩)
        obtain ⟨f1, f2, f3, f4, f5, f6⟩ := facts S2 g2
        have fin : ∀ S3, Ge S S3 → wp (evE (envOf (g fuel) (k + 27)) (.ix (.ix (.ix (.ix (.loc 3) (.cst (.int (2)))) (.neg (.cst (.int (1))))) (.ix (.loc 2) (.cst (.int (1))))) (.cst (.int (0)))) (([c0, some d, some v.d, some t, some (.hd w), o5, none, o7, o8, o9, o10, o11] : Sl).set 6 (some x))) (fun y S4 => wp ((envOf (g fuel) (k + 27)).call f_alike [.int (a : Nat), y]) (fun v S5 => Ge S S5 ∧ List.replicate i (D.bl true) ++ [v] = List.replicate (i + 1) (.bl true)) S4) S3 := fun S3 g3 => by
          obtain ⟨f1, f2, f3, f4, f5, f6⟩ := facts S3 g3
          refine wp_pu (d := .int (a : Nat)) (by simp [pu, f3, f4, f5, hds_last]) ?_
          exact sp_alike 0 (k + 26) _ _ _ dat_i ⟨g3, List.replicate_succ'.symm⟩
        match i, hx with
        | 0, hx =>
          cases hx
          refine wp_puEs (ds := [.non, .str v.nm]) (by simp [pu, puEs, wipeD, f5]) ?_
          exact sp_spotN (k := k + 26) (Y.ge g2) hg fun S3 g3 => fin S3 (g2.trans g3)
        | 1, hx =>
          cases hx
          refine wp_puEs (ds := [.int ((0 : Nat) : Int), .str v.nm]) (by simp [pu, puEs, wipeD, f5]) ?_
          have hn0 : 0 < (handsF 0 procs).length := by
            obtain ⟨sh, hsh, e, _⟩ := hands_shape h
            rw [e]
            match sh, hsh with
            | 0, _ => decide
            | 1, _ => decide
            | 2, _ => decide
            | 3, _ => decide
          exact sp_spotI (k := k + 26) (i := 0) (Y.ge g2) hn0 (.inr ⟨own_none h hvm hn0, _, _, hg, rfl⟩) (fin S2 g2)
        | i + 2, hx => simp at hx
      · rintro acc S2 ⟨g2, rfl⟩
        refine ⟨slen (by simp), _, all_ok, rfl, b_nil ⟨g2, _, rfl⟩⟩
    · exact b_nil ⟨ge, _, rfl⟩
  · rintro σ S1 ⟨ge, o2, rfl⟩
    exact then_nx (q S1 o2 ge)
end
end K25
set_option Elab.async false
set_option linter.all false
set_option maxRecDepth 100000
set_option maxHeartbeats 1000000
namespace K25
open PySem Mp L2
theorem valD_app {a b : List (Key × D)} {k : Key} (h : valD a k = none) : valD (a ++ b) k = valD b k := by
  unfold valD at h ⊢
  have h1 : (a.find? fun kv => decide (kv.1 = k)) = none := by
    cases e : a.find? (fun kv => decide (kv.1 = k)) with
    | none => rfl
    | some x => rw [e] at h; cases h
  rw [List.find?_append, h1]
  rfl
theorem glo_none {d : D} {vs : List VR} {chs procs : List D} (h : Pr4 d vs chs procs) : valD (glo 0 vs) (.inr "v") = none := by
  have h1 := glo_v h
  rw [List.any_eq_false] at h1
  exact valD_none fun kv hk e => h1 kv hk (by rw [decide_eq_true_eq]; exact e)
section
variable {S : Sto} {d t : D} {vs : List VR} {chs procs : List D} {w F R G Lc Qh lo m R' A B C lo' : Nat} {as bs : List D} {c0 o2 o5 o6 o7 o8 o9 o10 o11 : Option D}
theorem once_chans {k : Nat} {r : Ss} {K : K2} (h : Pr4 d vs chs procs) (Y : LayR S d vs chs procs w F R G Lc Qh lo)
    (q : ∀ o2 o5, wpB (envOf (g fuel) (k + 27)) r [c0, some d, o2, some t, some (.hd w), o5, o6, o7, o8, o9, o10, o11] K S) :
    wpB (envOf (g fuel) (k + 27)) (.cons (.for_ (.tp (.cons (.nm 5) (.cons (.nm 2) .nil))) (.enum (.ix (.loc 1) (.cst (.int (2)))))
    (.cons (.if_ (.not_ (.call f_alike (.cons (.bi .tuple (.cons (.ix (.fld (.loc 4) ("queues" : Str)) (.ix (.loc 2) (.cst (.int (1))))) .nil)) (.cons (.bin .add (.tup (.cons (.loc 5) .nil)) (.sl (.loc 2) (.yes (.cst (.int (2)))) .no)) .nil))))
      (.cons (.ret (.yes (.cst (.bl false))))
      .nil)
      .nil)
    .nil)) r) [c0, some d, o2, some t, some (.hd w), o5, o6, o7, o8, o9, o10, o11] K S := by
  have hd := h.eq
  refine b_for ?_
  refine wi_enT (xs := chs) ?_
  refine wp_pu (d := .tup chs) (by simp [pu, hd]) ⟨.inl rfl, ?_⟩
  refine wp_for_en (fun i σ S' => S' = S ∧ ∃ o2 o5, σ = [c0, some d, o2, some t, some (.hd w), o5, o6, o7, o8, o9, o10, o11]) ⟨rfl, _, _, rfl⟩ ?_ ?_
  · rintro i x σ S1 hx ⟨rfl, o2, o5, rfl⟩
    have hq := h.chans
    rcases hq with rfl | ⟨s, rfl⟩
    · simp at hx
    match i, hx with
    | i + 1, hx => simp at hx
    | 0, hx =>
    cases hx
    refine t_tp (t_tpC (t_nm (t_tpC (t_nm (t_tpN ?_)))))
    show wpB (envOf (g fuel) (k + 27)) _ _ (fun f σ S => Turn1 (f, σ) S _ _) S1
    have f1 := Y.fld.2.2.2.2.2.1
    have f2 := ix_dks (nm := ("q" : Str)) Y.queues
    have f3 : valD (queF [Chan s]) (.inr ("q" : Str)) = some (.tup [.int 0, .int s, .int 0, .int 1]) := by
      simp [queF, Chan, valD]
    rw [f3] at f2
    have f4 : ixP S1 (Chan s) (.int 1) = some (.str "q") := rfl
    have f5 : slP S1 (Chan s) (some 2) none = some (.tup [.int s, .int 0, .int 1]) := rfl
    have f6 : binP S1 .add (.tup [.int 0]) (.tup [.int s, .int 0, .int 1]) = some (.tup [.int 0, .int s, .int 0, .int 1]) := bin_addT (slen (by simp))
    refine b_ifNot (we_callP (ds := [.tup [.int 0, .int s, .int 0, .int 1], .tup [.int 0, .int s, .int 0, .int 1]]) (by simp [pu, puEs, puO, f1, f2, f4, f5, f6, sl1]) ?_)
    exact sp_alike 1 (k + 25) _ _ _ (dat4 dat_i dat_i dat_i dat_i) ⟨rfl, b_nil ⟨rfl, _, _, rfl⟩⟩
  · rintro σ S1 ⟨rfl, o2, o5, rfl⟩
    exact then_nx (q o2 o5)
/-- once: the statements of a hand, one by one -/
theorem once_rows {k i j k' : Nat} {p : D} {r : Ss} {K : K2} (h : Pr4 d vs chs procs) (T : ToldR S d vs procs m R' A B C lo' as bs t) (Y : LayR S d vs chs procs w F R G Lc Qh lo) (hh : (handsF 0 procs)[i]? = some (.tup [.int (j : Nat), .int (k' : Nat)])) (hp : procs[j]? = some p)
    (q : ∀ o2 o10 o11, wpB (envOf (g fuel) (k + 27)) r [c0, some d, o2, some t, some (.hd w), o5, some (.int (i : Nat)), o7, some (.int (j : Nat)), o9, o10, o11] K S) :
    wpB (envOf (g fuel) (k + 27)) (.cons (.for_ (.tp (.cons (.nm 10) (.cons (.nm 2) .nil))) (.enum (.ix (.ix (.loc 3) (.cst (.int (5)))) (.loc 8)))
      (.cons (.asg (.nm 11) (.bi .tuple (.cons (.ix (.ix (.ix (.loc 3) (.cst (.int (6)))) (.loc 8)) (.loc 10)) .nil)))
      (.cons (.if_ (.or_ (.not_ (.call f_alike (.cons (.meth (.loc 4) ("statement" : Str) (.cons (.loc 6) (.cons (.bin .add (.loc 10) (.cst (.int (1)))) .nil))) (.cons (.loc 2) .nil)))) (.not_ (.call f_alike (.cons (.bi .tuple (.cons (.meth (.loc 4) ("parts" : Str) (.cons (.loc 6) (.cons (.bin .add (.loc 10) (.cst (.int (1)))) .nil))) .nil)) (.cons (.loc 11) .nil)))))
        (.cons (.ret (.yes (.cst (.bl false))))
        .nil)
        .nil)
      .nil))) r) [c0, some d, o2, some t, some (.hd w), o5, some (.int (i : Nat)), o7, some (.int (j : Nat)), o9, o10, o11] K S := by
  have hd := h.eq
  obtain ⟨a, b, ha, hb, ⟨ia, rfl, _, ha2⟩, ib, nh, rfl, _, hb2, hfr, hrows⟩ := T.rows.get hp
  have hpm := List.mem_of_getElem? hp
  have sdat := stF_dat h hpm
  obtain ⟨nm, cp, own, body, pg, _, _⟩ := h.procs.2 p hpm
  have eb : bodyL p = body := by rw [pg.eq]; rfl
  have hgs : ∀ y ∈ bodyL p, Gs 4 y := fun y hy => (pg.gs y (by rw [← eb]; exact hy)).1
  have hlen : (bodyL p).length ≤ 4 := by rw [eb]; exact pg.len
  obtain ⟨n1, n2⟩ := num_dat 4 (bodyL p) 1 hlen hgs
  obtain ⟨c1, _⟩ := cnt_num 4 (bodyL p) 1 hgs
  have e1 : ixP S t (.int 5) = some (.hd A) := by rw [T.eq]; exact Mp.atI_nat (k := 5) rfl
  have e2 : ixP S t (.int 6) = some (.hd B) := by rw [T.eq]; exact Mp.atI_nat (k := 6) rfl
  have e3 : ixP S (.hd A) (.int (j : Nat)) = some (.hd ia) := by rw [ix_hd T.st]; exact L2.atI_nat ha
  have e4 : ixP S (.hd B) (.int (j : Nat)) = some (.hd ib) := by rw [ix_hd T.bl]; exact L2.atI_nat hb
  refine b_for ?_
  refine wi_enH (m := ia) (xs := allS 4 (bodyL p)) ?_
  refine wp_pu (d := .hd ia) (by simp [pu, e1, e3]) ⟨rfl, ha2, ?_⟩
  refine wp_for_he (ds := allS 4 (bodyL p)) (fun i' σ S' => S' = S ∧ ∃ o2 o10 o11, σ = [c0, some d, o2, some t, some (.hd w), o5, some (.int (i : Nat)), o7, some (.int (j : Nat)), o9, o10, o11]) ⟨rfl, _, _, _, rfl⟩ (fun i' σ S' hh => by rw [hh.1]; exact ha2) ?_ ?_
  · rintro u y σ S1 hy ⟨rfl, o2, o10, o11, rfl⟩
    have hul := (List.getElem?_eq_some_iff.mp hy).1
    have hul2 : u < (num 4 (bodyL p) 1).2.2.length := by omega
    have hrow : (num 4 (bodyL p) 1).2.2[u]? = some (num 4 (bodyL p) 1).2.2[u] := List.getElem?_eq_getElem hul2
    have rowdat := n2 _ (List.getElem_mem hul2)
    generalize (num 4 (bodyL p) 1).2.2[u] = row at hrow rowdat
    -- the handle of the row
    have hr : ∃ x, nh[u]? = some (.hd x) ∧ S1[x]? = some (.lst row) := by
      clear hul2 rowdat ha2 hb2 c1 n2 hfr
      revert hrow hrows
      generalize (num 4 (bodyL p) 1).2.2 = rows
      intro hrows hrow
      clear hul hy
      induction hrows generalizing u with
      | nil => simp at hrow
      | @cons z rw0 hs rws e _ ih =>
        cases u with
        | zero =>
          cases hrow
          exact ⟨z, rfl, e⟩
        | succ u => exact ih u (by simpa using hrow)
    obtain ⟨x, hx1, hx2⟩ := hr
    have e5 : ixP S1 (.hd ib) (.int (u : Nat)) = some (.hd x) := by rw [ix_hd hb2]; exact L2.atI_nat hx1
    refine t_tp (t_tpC (t_nm (t_tpC (t_nm (t_tpN ?_)))))
    show wpB (envOf (g fuel) (k + 27)) _ _ (fun f σ S => Turn1 (f, σ) S _ _) S1
    refine b_set (.tup row) (by simp [pu, puEs, e2, e4, e5, seq_hd hx2]) ?_
    refine b_ifNot2 ?_
    rw [we_call]
    simp only [wes_cons, wes_nil]
    refine we_meth (wp_pu (d := .hd w) rfl ⟨w, 0, _, f_Layout_statement, rfl, Y.ob, zip_none no_spot.2.1, mt_statement, ?_⟩)
    refine wp_puEs (ds := [.int (i : Nat), .int ((u : Nat) + 1)]) (by simp [pu, puEs]) ?_
    refine sp_statement_ (k := k + 26) Y hh hp hy ?_
    refine wp_pu (d := y) (by simp [pu]) ?_
    have ydat : Dat 24 y := sdat.2 y (List.mem_of_getElem? hy)
    refine sp_alike 24 (k + 2) _ _ _ ydat ⟨rfl, ?_⟩
    rw [we_call]
    simp only [wes_cons, wes_nil, we_bi]
    refine we_meth (wp_pu (d := .hd w) rfl ⟨w, 0, _, f_Layout_parts, rfl, Y.ob, zip_none no_spot.2.2, mt_parts, ?_⟩)
    refine wp_puEs (ds := [.int (i : Nat), .int ((u : Nat) + 1)]) (by simp [pu, puEs]) ?_
    refine sp_parts (k := k + 26) Y hh hp hrow ?_
    refine ⟨.tup row, rfl, wp_pu (d := .tup row) (by simp [pu]) ?_⟩
    refine sp_alike 2 (k + 24) _ _ _ rowdat ⟨rfl, b_nil ⟨rfl, _, _, _, rfl⟩⟩
  · rintro σ S1 ⟨rfl, o2, o10, o11, rfl⟩
    exact then_nx (q o2 o10 o11)
end
end K25
set_option Elab.async false
set_option linter.all false
set_option maxRecDepth 100000
set_option maxHeartbeats 1000000
namespace K25
open PySem Mp L2
section
variable {S : Sto} {d t : D} {vs : List VR} {chs procs : List D} {w F R G Lc Qh lo m R' A B C lo' : Nat} {as bs : List D} {c0 o2 o5 o6 o7 o8 o9 o10 o11 : Option D}
theorem once_hands {k : Nat} {r : Ss} {K : K2} (h : Pr4 d vs chs procs) (T : ToldR S d vs procs m R' A B C lo' as bs t) (Y : LayR S d vs chs procs w F R G Lc Qh lo)
    (q : ∀ o2 o6 o7 o8 o9 o10 o11, wpB (envOf (g fuel) (k + 27)) r [c0, some d, o2, some t, some (.hd w), o5, o6, o7, o8, o9, o10, o11] K S) :
    wpB (envOf (g fuel) (k + 27)) (.cons (.for_ (.tp (.cons (.nm 6) (.cons (.tp (.cons (.nm 8) (.cons (.nm 9) .nil))) .nil))) (.enum (.ix (.loc 3) (.cst (.int (1)))))
    (.cons (.asg (.nm 7) (.comp false [2] (.nm 2) (.seq (.ix (.ix (.ix (.loc 1) (.cst (.int (3)))) (.loc 8)) (.cst (.int (3))))) .no (.ix (.loc 2) (.cst (.int (1))))))
    (.cons (.if_ (.or_ (.cmp .ne (.bf false .sorted (.cons (.ix (.fld (.loc 4) ("locals" : Str)) (.loc 6)) .nil)) (.bf false .sorted (.cons (.loc 7) .nil))) (.not_ (.bi .all (.cons (.comp false [2] (.nm 2) (.seq (.loc 7)) .no (.call f_alike (.cons (.ix (.ix (.fld (.loc 4) ("locals" : Str)) (.loc 6)) (.loc 2)) (.cons (.ix (.ix (.ix (.ix (.loc 3) (.cst (.int (2)))) (.loc 6)) (.loc 2)) (.cst (.int (0)))) .nil)))) .nil))))
      (.cons (.ret (.yes (.cst (.bl false))))
      .nil)
      .nil)
    (.cons (.if_ (.not_ (.bi .all (.cons (.comp false [2] (.nm 2) (.seq (.loc 7)) .no (.call f_alike (.cons (.meth (.loc 4) ("spot" : Str) (.cons (.loc 6) (.cons (.loc 2) .nil))) (.cons (.ix (.ix (.ix (.ix (.loc 3) (.cst (.int (2)))) (.loc 6)) (.loc 2)) (.cst (.int (0)))) .nil)))) .nil)))
      (.cons (.ret (.yes (.cst (.bl false))))
      .nil)
      .nil)
    (.cons (.if_ (.not_ (.call f_alike (.cons (.bi .tuple (.cons (.ix (.fld (.loc 4) ("bodies" : Str)) (.loc 8)) .nil)) (.cons (.ix (.ix (.loc 3) (.cst (.int (7)))) (.loc 8)) .nil))))
      (.cons (.ret (.yes (.cst (.bl false))))
      .nil)
      .nil)
    (.cons (.for_ (.tp (.cons (.nm 10) (.cons (.nm 2) .nil))) (.enum (.ix (.ix (.loc 3) (.cst (.int (5)))) (.loc 8)))
      (.cons (.asg (.nm 11) (.bi .tuple (.cons (.ix (.ix (.ix (.loc 3) (.cst (.int (6)))) (.loc 8)) (.loc 10)) .nil)))
      (.cons (.if_ (.or_ (.not_ (.call f_alike (.cons (.meth (.loc 4) ("statement" : Str) (.cons (.loc 6) (.cons (.bin .add (.loc 10) (.cst (.int (1)))) .nil))) (.cons (.loc 2) .nil)))) (.not_ (.call f_alike (.cons (.bi .tuple (.cons (.meth (.loc 4) ("parts" : Str) (.cons (.loc 6) (.cons (.bin .add (.loc 10) (.cst (.int (1)))) .nil))) .nil)) (.cons (.loc 11) .nil)))))
        (.cons (.ret (.yes (.cst (.bl false))))
        .nil)
        .nil)
      .nil)))
    .nil)))))) r) [c0, some d, o2, some t, some (.hd w), o5, o6, o7, o8, o9, o10, o11] K S := by
  have hd := h.eq
  have t1 : ixP S t (.int 1) = some (.lst (handsF 0 procs)) := by rw [T.eq]; exact Mp.atI_nat (k := 1) rfl
  have t2 : ixP S t (.int 2) = some (.lst (hdsF m ((handsF 0 procs).length + 1))) := by rw [T.eq]; exact Mp.atI_nat (k := 2) rfl
  have t7 : ixP S t (.int 7) = some (.hd C) := by rw [T.eq]; exact Mp.atI_nat (k := 7) rfl
  refine b_for ?_
  refine wi_enT (xs := handsF 0 procs) ?_
  refine wp_pu (d := .lst (handsF 0 procs)) (by simp [pu, t1]) ⟨.inr rfl, ?_⟩
  refine wp_for_en (fun i σ S' => S' = S ∧ ∃ o2 o6 o7 o8 o9 o10 o11, σ = [c0, some d, o2, some t, some (.hd w), o5, o6, o7, o8, o9, o10, o11]) ⟨rfl, _, _, _, _, _, _, _, rfl⟩ ?_ ?_
  · rintro i x σ S1 hx ⟨rfl, o2, o6, o7, o8, o9, o10, o11, rfl⟩
    have hil := (List.getElem?_eq_some_iff.mp hx).1
    obtain ⟨j, k', p, nm, cp, own, body, rfl, hj, hpg, eo, ho⟩ := own_hand h (List.mem_of_getElem? hx)
    have hpm := List.mem_of_getElem? hj
    have eg : (handsF 0 procs).getD i .non = .tup [.int (j : Nat), .int (k' : Nat)] := by rw [List.getD_eq_getElem?_getD, hx]; rfl
    have ep : atI procs ((j : Nat) : Int) = some p := L2.atI_nat hj
    have el := Y.own i hil
    have ec := T.cells i (Nat.lt_succ_of_lt hil)
    have eF : ownF vs procs (handsF 0 procs) i = own.map fun v => (.inr (nmD v), .int (baseH vs procs (handsF 0 procs) i : Nat)) := by
      unfold ownF ownK
      rw [eg, eo]
      rfl
    have eC : cellF vs procs (handsF 0 procs) i = glo 0 vs ++ own.map fun v => (.inr (nmD v), wT (.int (baseH vs procs (handsF 0 procs) i : Nat))) := by
      unfold cellF ownK
      rw [eg, eo]
    have hol : own.length ≤ 1 := by rcases ho with rfl | ⟨u, rfl⟩ <;> simp
    have f1 := Y.fld.2.2.2.2.1
    have f2 : ixP S1 (.hd Lc) (.int (i : Nat)) = some (.hd (lo + i)) := by
      rw [ix_hd Y.locals_]
      refine L2.atI_nat ?_
      unfold hdsF
      rw [List.getElem?_map, List.getElem?_range hil]
      rfl
    have f3 : atI (hdsF m ((handsF 0 procs).length + 1)) ((i : Nat) : Int) = some (.hd (m + i)) := by
      refine L2.atI_nat ?_
      unfold hdsF
      rw [List.getElem?_map, List.getElem?_range (by omega)]
      rfl
    have f4 : own ≠ [] → ixP S1 (.hd (lo + i)) (.str "v") = some (.int (baseH vs procs (handsF 0 procs) i : Nat)) ∧ ixP S1 (.hd (m + i)) (.str "v") = some (.tup [.int (baseH vs procs (handsF 0 procs) i : Nat), .int 0]) ∧ valD (ownF vs procs (handsF 0 procs) i) (.inr "v") = some (.int (baseH vs procs (handsF 0 procs) i : Nat)) := fun hne => by
      rcases ho with rfl | ⟨u, rfl⟩
      · exact absurd rfl hne
      · have v1 : valD (ownF vs procs (handsF 0 procs) i) (.inr "v") = some (.int (baseH vs procs (handsF 0 procs) i : Nat)) := by
          rw [eF]
          simp [valD, Var, nmD]
        refine ⟨by rw [ix_dks el]; exact v1, ?_, v1⟩
        rw [ix_dks ec, eC, valD_app (glo_none h)]
        simp [valD, Var, nmD, wT]
    refine t_tp (t_tpC (t_nm (t_tpC (t_tp (t_tpC (t_nm (t_tpC (t_nm (t_tpN (t_tpN ?_))))))))))
    show wpB (envOf (g fuel) (k + 27)) _ _ (fun f σ S => Turn1 (f, σ) S _ _) S1
    obtain ⟨ep', _, _, _⟩ := hpg
    refine b_asg (names_comp (xs := own) (ks := own.map nmD) (by simp [pu, hd, ep, ep']) (fun i x hx => ?_) (by simp) (by simp; omega) (by simp) (t_nm ?_))
    · rcases ho with rfl | ⟨u, rfl⟩
      · simp at hx
      · match i, hx with
        | 0, hx =>
          cases hx
          exact ⟨"v", rfl, fun _ => rfl⟩
        | i + 1, hx => simp at hx
    have hks : (own.map nmD).length < 64 := by simp; omega
    have hst : ∀ x ∈ own.map nmD, PyData.strOk x = true := by
      rcases ho with rfl | ⟨u, rfl⟩
      · intro x hx; cases hx
      · intro x hx
        rw [List.map_singleton, List.mem_singleton] at hx
        subst hx
        exact v_ok
    have s1 := sorted_dk (ks := own.map nmD) el (by rw [eF, List.map_map, List.map_map]; rfl) hks
    have s2 := sorted_lst (S := S1) hks
    have s3 := ne_sorted (S := S1) hst
    have hxv : ∀ {u : Nat} {x : D}, ((own.map nmD).map D.str)[u]? = some x → x = .str "v" ∧ own ≠ [] := fun {u x} hx => by
      rcases ho with rfl | ⟨v, rfl⟩
      · simp at hx
      · match u, hx with
        | 0, hx =>
          cases hx
          exact ⟨rfl, List.cons_ne_nil _ _⟩
        | u + 1, hx => simp at hx
    have hlen : ((own.map nmD).map D.str).length ≤ 1 := by simpa using hol
    refine b_ifOrN (wp_pu (d := .bl false) (by simp only [pu, puEs, List.getElem?_cons_zero, List.getElem?_cons_succ, List.set_cons_zero, List.set_cons_succ, Option.bind_some, Option.map_some, f1, f2, s1, s2, s3]) ⟨rfl, ?_⟩)
    rw [we_bi]
    simp only [wes_cons, wes_nil]
    refine wc_loop (es := (own.map nmD).map D.str) (wi_seqT (xs := (own.map nmD).map D.str) (wp_pu (d := .lst ((own.map nmD).map D.str)) (by simp [pu]) ⟨.inr rfl, rfl, ?_⟩))
    refine wp_comp_st (fun u acc S' => S' = S1 ∧ acc = List.replicate u (.bl true)) ⟨rfl, rfl⟩ ?_ ?_
    · rintro u x acc S2 hx ⟨rfl, rfl⟩
      obtain ⟨rfl, hne⟩ := hxv hx
      obtain ⟨g1, g2, _⟩ := f4 hne
      refine t_nm ?_
      simp only [wc_no, if_true]
      refine we_callP (ds := [.int (baseH vs procs (handsF 0 procs) i : Nat), .int (baseH vs procs (handsF 0 procs) i : Nat)]) (by simp [pu, puEs, wipeD, f1, f2, g1, t2, f3, g2]) ?_
      exact sp_alike 0 (k + 26) _ _ _ dat_i ⟨rfl, List.replicate_succ'.symm⟩
    rintro acc S2 ⟨rfl, rfl⟩
    refine ⟨slen (by simp; omega), _, all_ok, rfl, ?_⟩
    refine b_ifNot ?_
    rw [we_bi]
    simp only [wes_cons, wes_nil]
    refine wc_loop (es := (own.map nmD).map D.str) (wi_seqT (xs := (own.map nmD).map D.str) (wp_pu (d := .lst ((own.map nmD).map D.str)) (by simp [pu]) ⟨.inr rfl, rfl, ?_⟩))
    refine wp_comp_st (fun u acc S' => S' = S2 ∧ acc = List.replicate u (.bl true)) ⟨rfl, rfl⟩ ?_ ?_
    · rintro u x acc S3 hx ⟨rfl, rfl⟩
      obtain ⟨rfl, hne⟩ := hxv hx
      obtain ⟨g1, g2, g3⟩ := f4 hne
      refine t_nm ?_
      simp only [wc_no, if_true]
      rw [we_call]
      simp only [wes_cons, wes_nil]
      refine we_meth (wp_pu (d := .hd w) rfl ⟨w, 0, _, f_Layout_spot, rfl, Y.ob, zip_none no_spot.1, mt_spot, ?_⟩)
      refine wp_puEs (ds := [.int (i : Nat), .str "v"]) (by simp [pu, puEs, wipeD]) ?_
      refine sp_spotI (k := k + 26) Y hil (.inl g3) ?_
      refine wp_pu (d := .int (baseH vs procs (handsF 0 procs) i : Nat)) (by simp [pu, wipeD, t2, f3, g2]) ?_
      exact sp_alike 0 (k + 26) _ _ _ dat_i ⟨rfl, List.replicate_succ'.symm⟩
    rintro acc S3 ⟨rfl, rfl⟩
    refine ⟨slen (by simp; omega), _, all_ok, rfl, ?_⟩
    have f5 := Y.fld.2.2.2.2.2.2.2.2
    have f6 : atI (procs.map boF) ((j : Nat) : Int) = some (boF p) := L2.atI_nat (by rw [List.getElem?_map, hj]; rfl)
    have f7 : ixP S3 (.hd C) (.int (j : Nat)) = some (boF p) := by
      rw [ix_hd T.bd]
      exact L2.atI_nat (by rw [List.getElem?_map, hj]; rfl)
    have hgs : ∀ y ∈ bodyL p, Gs 4 y ∧ (bodyL p).length ≤ 4 := fun y hy => by
      obtain ⟨_, _, _, body', pg, _, _⟩ := h.procs.2 p hpm
      have eb : bodyL p = body' := by rw [pg.eq]; rfl
      exact ⟨(pg.gs y (by rw [← eb]; exact hy)).1, by rw [eb]; exact pg.len⟩
    have hbl : (bodyL p).length ≤ 4 := by
      obtain ⟨_, _, _, body', pg, _, _⟩ := h.procs.2 p hpm
      have eb : bodyL p = body' := by rw [pg.eq]; rfl
      rw [eb]; exact pg.len
    have bdat := (num_dat 4 (bodyL p) 1 hbl fun y hy => (hgs y hy).1).1
    refine b_ifNot (we_callP (ds := [boF p, boF p]) (by simp [pu, puEs, f5, f6, t7, f7]) ?_)
    refine sp_alike 1 (k + 25) _ _ _ bdat ⟨rfl, ?_⟩
    refine once_rows h T Y hx hj fun o2 o10 o11 => b_nil ⟨rfl, _, _, _, _, _, _, _, rfl⟩
  · rintro σ S1 ⟨rfl, o2, o6, o7, o8, o9, o10, o11, rfl⟩
    exact then_nx (q _ _ _ _ _ _ _)
end
end K25
set_option Elab.async false
set_option linter.all false
set_option maxRecDepth 100000
set_option maxHeartbeats 1000000
namespace K25
open PySem Mp L2
theorem fn_once : (g fuel).fns f_once = ⟨12, 1, b_once⟩ := rfl
theorem fn_start : (g fuel).fns f_start = ⟨2, 1, b_start⟩ := rfl
theorem fn_law : (g fuel).fns f_law = ⟨3, 1, b_law⟩ := rfl
theorem sp_once {k n : Nat} {S : Sto} {Q : D → Sto → Prop} (c : Cell S n) (q : ∀ S', Cell S' n → Q (.bl true) S') : wp (run (g fuel) (k + 28) f_once [.hd n]) Q S := by
  refine wp_run fn_once rfl ?_
  show wpB (envOf (g fuel) (k + 27)) b_once [some (.hd n), none, none, none, none, none, none, none, none, none, none, none] (fun f _ S' => match f with
    | .rt d => Q d S'
    | .nx => Q .non S'
    | _ => False) S
  refine b_asg ?_
  rw [we_call]
  simp only [wes_cons, wes_nil]
  refine wp_pu (d := .hd n) rfl ?_
  rw [we_call]
  simp only [wes_cons, wes_nil]
  refine wp_pu (d := .hd n) rfl ?_
  refine sp_program (k := k + 14) c fun d0 vs chs procs0 S1 hP0 g1 => ?_
  refine sp_deeper (k := k + 23) g1.cell hP0 fun d procs S2 h d2 => t_nm ?_
  have c2 := d2.cell g1.cell
  -- told and Layout
  refine b_asg ?_
  rw [we_tup]
  simp only [wes_cons, wes_nil]
  refine we_callP (ds := [d]) (by simp [pu, puEs]) ?_
  refine sp_told (k := k + 21) h fun S3 t m R' A B C lo' as bs g3 T => ?_
  rw [we_new ini_Layout]
  refine wp_puEs (ds := [d]) (by simp [pu, puEs]) ?_
  refine sp_layout (k := k + 18) h get_new fun S4 F R G Lc Qh lo g4 Y => ⟨rfl, slen (by simp), ?_⟩
  have T4 := T.ge g4.ge
  have c4 := ((g3.trans g4.ge).gw c2).cell
  refine t_tp (t_tpC (t_nm (t_tpC (t_nm (t_tpN ?_)))))
  have hd := h.eq
  generalize S3.length = w at *
  -- are_hands, hands
  refine b_ifNot2 (we_callP (ds := [d, t]) (by simp [pu, puEs]) ?_)
  refine sp_are (k := k) h T4 fun S5 g5 => ⟨rfl, ?_⟩
  have T5 := T4.ge g5
  have Y5 := Y.ge g5
  have c5 := (g5.gw c4).cell
  have t1 : ixP S5 t (.int 1) = some (.lst (handsF 0 procs)) := by rw [T5.eq]; exact Mp.atI_nat (k := 1) rfl
  have t3 : ixP S5 t (.int 3) = some (.hd R') := by rw [T5.eq]; exact Mp.atI_nat (k := 3) rfl
  have t4 : ixP S5 t (.int 4) = some (.tup (fstV vs ++ fstH procs (handsF 0 procs))) := by rw [T5.eq]; exact Mp.atI_nat (k := 4) rfl
  obtain ⟨f1, f2, f3, f4, f5, f6, _⟩ := Y5.fld
  refine we_callP (ds := [.tup (handsF 0 procs), .tup (handsF 0 procs)]) (by simp [pu, puEs, f1, t1]) ?_
  refine sp_alike 2 (k + 24) _ _ _ (hands_dat h) ⟨rfl, ?_⟩
  refine b_ifNot2 (we_callP (ds := [.tup (fstV vs ++ fstH procs (handsF 0 procs)), .tup (fstV vs ++ fstH procs (handsF 0 procs))]) (by simp [pu, puEs, f2, t4, seq_hd Y5.first]) ?_)
  refine sp_alike 1 (k + 25) _ _ _ (first_dat h) ⟨rfl, ?_⟩
  refine we_callP (ds := [.tup (rngV vs ++ rngH procs (handsF 0 procs)), .tup (rngV vs ++ rngH procs (handsF 0 procs))]) (by simp [pu, puEs, f3, t3, seq_hd Y5.ranges, seq_hd T5.rng]) ?_
  refine sp_alike 2 (k + 24) _ _ _ (rng_dat h) ⟨rfl, ?_⟩
  -- names
  have n1 := sorted_dk (ks := vs.map VR.nm) Y5.globals glo_keys (by rw [List.length_map]; have := h.names.2.1; omega)
  have n2 := sorted_lst (S := S5) (ks := vs.map VR.nm) (by rw [List.length_map]; have := h.names.2.1; omega)
  have n3 := ne_sorted (S := S5) (nm_ok h)
  obtain ⟨q1, q2, q3⟩ := queF_keys h
  have m1 := sorted_dk (ks := chs.map nmD) Y5.queues q1 (by rw [List.length_map]; exact q3)
  have m2 := sorted_lst (S := S5) (ks := chs.map nmD) (by rw [List.length_map]; exact q3)
  have m3 := ne_sorted (S := S5) q2
  refine b_ifOr ?_
  simp only [we_cmp, we_bf, wes_cons, wes_nil]
  refine wp_pu (d := .hd G) (by simp [pu, f4]) ⟨_, n1, ?_⟩
  refine names_comp (xs := vs.map VR.d) (ks := vs.map VR.nm) (by simp [pu, hd]) (fun i x hx => ?_) (by simp) (by rw [List.length_map]; have := h.names.2.1; omega) (by simp) ⟨_, n2, false, n3, rfl, ?_⟩
  · rw [List.getElem?_map] at hx
    obtain ⟨v, hv, rfl⟩ := Option.map_eq_some_iff.mp hx
    exact ⟨v.nm, by rw [List.getElem?_map, hv]; rfl, fun _ => rfl⟩
  refine wp_pu (d := .hd Qh) (by simp [pu, f6]) ⟨_, m1, ?_⟩
  refine names_comp (xs := chs) (ks := chs.map nmD) (by simp [pu, hd]) (fun i x hx => ?_) (by simp) (by rw [List.length_map]; omega) (by simp) ⟨_, m2, false, m3, rfl, ?_⟩
  · rcases h.chans with rfl | ⟨s, rfl⟩
    · simp at hx
    · match i, hx with
      | 0, hx => cases hx; exact ⟨"q", rfl, fun _ => rfl⟩
      | i + 1, hx => simp at hx
  refine once_vars h T5 Y5 fun S6 o2 g6 => ?_
  have T6 := T5.ge g6
  have Y6 := Y5.ge g6
  refine once_chans h Y6 fun o2 o5 => ?_
  refine once_hands h T6 Y6 fun o2 o6 o7 o8 o9 o10 o11 => ?_
  exact b_retP (.bl true) rfl (q _ (g6.gw c5).cell)
theorem sp_start {k : Nat} {ns : List Int} {S : Sto} {Q : D → Sto → Prop} (hl : ns.length ≤ 63) (q : ∀ n S', Cell S' n → Q (.hd n) S') : wp (run (g fuel) (k + 1) f_start [.scr ns]) Q S := by
  refine wp_run fn_start rfl ?_
  show wpB (envOf (g fuel) k) b_start [some (.scr ns), none] (fun f _ S' => match f with
    | .rt d => Q d S'
    | .nx => Q .non S'
    | _ => False) S
  have e1 : cutL ns none (some 63) = ns := by
    unfold cutL
    have h0 : HT.sIx ns.length 0 none = 0 := rfl
    have h1 : ns.length ≤ HT.sIx ns.length ns.length (some 63) := by
      unfold HT.sIx
      simp
      omega
    rw [h0, List.drop_zero, List.take_of_length_le (by omega)]
  refine b_ret ?_
  rw [we_lstT]
  simp only [wes_cons, wes_nil]
  refine wc_loop (es := ns.map D.int) (wi_seqT (xs := ns.map D.int) (wp_pu (d := .lst (ns.map D.int)) ?_ ⟨.inr rfl, rfl, ?_⟩))
  · have : slP S (.scr ns) none (some 63) = some (.lst (ns.map D.int)) := by
      show some (D.lst ((cutL ns none (some 63)).map D.int)) = _
      rw [e1]
    simp [pu, puO, this]
  refine wp_comp_st (fun i acc S' => S' = S ∧ acc = (ns.map D.int).take i) ⟨rfl, rfl⟩ ?_ ?_
  · rintro i x acc S' hx ⟨rfl, rfl⟩
    have hx' := hx
    rw [List.getElem?_map] at hx
    obtain ⟨j, hj, rfl⟩ := Option.map_eq_some_iff.mp hx
    refine t_nm ?_
    simp only [wc_no, if_true]
    exact wp_pu (d := .int j) (by simp [pu, puEs, wipeD]) ⟨rfl, (take_snoc hx').symm⟩
  · rintro acc S' ⟨rfl, rfl⟩
    rw [List.take_length]
    refine ⟨slen (by rw [List.length_map]; omega), ?_⟩
    simp
    refine ⟨slen (by decide), q _ _ ⟨_, get_new, ns, 0, 0, 0, rfl, by decide⟩⟩
theorem sp_law {k : Nat} {ns : List Int} {S : Sto} {Q : D → Sto → Prop} (hl : ns.length ≤ 63) (q : ∀ S', Q (.bl true) S') : wp (run (g fuel) (k + 29) f_law [.scr ns]) Q S := by
  refine wp_run fn_law rfl ?_
  show wpB (envOf (g fuel) (k + 28)) b_law [some (.scr ns), none, none] (fun f _ S' => match f with
    | .rt d => Q d S'
    | .nx => Q .non S'
    | _ => False) S
  refine b_asg (we_callP (ds := [.scr ns]) (by simp [pu, puEs]) ?_)
  refine sp_start (k := k + 27) hl fun n S1 c => t_nm ?_
  refine b_for ?_
  refine wi_rng1 (wp_pu (d := .int 4) rfl ⟨4, rfl, by decide, ?_⟩)
  refine wp_for_rg (fun i σ S' => Cell S' n ∧ ∃ o2, σ = [some (.scr ns), some (.hd n), o2]) ⟨c, _, rfl⟩ ?_ ?_
  · rintro i σ S2 hi ⟨c2, o2, rfl⟩
    refine t_nm ?_
    show wpB (envOf (g fuel) (k + 28)) _ _ (fun f σ S => Turn1 (f, σ) S _ _) S2
    refine b_ifNot (we_callP (ds := [.hd n]) (by simp [pu, puEs]) ?_)
    exact sp_once (k := k) c2 fun S3 c3 => ⟨rfl, b_nil ⟨c3, _, rfl⟩⟩
  · rintro σ S2 ⟨c2, o2, rfl⟩
    exact then_nx (b_retP (.bl true) rfl (q _))
theorem hrun1 (ns : List Int) (hl : ns.length ≤ 63) : ∃ fuel S', Mp.run (L.pg fuel) 60 f_law [.scr ns] [] = .ok (.bl true) S' := by
  obtain ⟨a, S', e, rfl⟩ := sp_law (fuel := 0) (k := 31) (S := []) (Q := fun d _ => d = .bl true) hl fun _ => rfl
  exact ⟨0, S', e⟩
end K25
set_option Elab.async false
set_option linter.all false
set_option maxRecDepth 100000
set_option maxHeartbeats 4000000
namespace K25
open PySem PySem.Spec PyProof.Rows L2 Mp
abbrev R : PySem.W.OpenRow := PySem.W.OpenLaw.row PySem.Challenge.rw_runstead_k25_layouts
abbrev hk : PySem.W.Hook := He.hookD 6 L.fa L.fn
def ob (s : PySem.W.SharedT) : He.AlD := He.obsDG 6 L.fa L.fn (HandSHeadRun.getT s)
theorem ob_eq (s : PySem.W.SharedT) : ob s = hk.obs s.abs := He.obsDG_eq (HandSHeadRun.getT_eq s)
/-- the other names that the top binds -/
def loose : List Str := ([("_wall" : Str), ("blocks_of" : Str), ("all_statements" : Str), ("hands_of" : Str), ("hand_number" : Str), ("place_block" : Str), ("numbered" : Str), ("Layout" : Str), ("_law_start" : Str), ("_law_fill" : Str), ("_law_take" : Str), ("_law_pick" : Str), ("_law_alike" : Str), ("_law_expr" : Str), ("_law_test" : Str), ("_law_target" : Str), ("_law_plain" : Str), ("_law_statement" : Str), ("_law_block" : Str), ("_law_many" : Str), ("_law_process" : Str), ("_law_program" : Str), ("_law_numbers" : Str), ("_law_told" : Str), ("_law_deeper" : Str), ("_law_are_hands" : Str), ("_law_once" : Str)] : List Str)
theorem hrun (w : World) : HandSHeadRun.RunEq R (PySem.W.view R.prog [30]) hk ob 3000 loose w := by
  intro os
  kernel_rfl
end K25
namespace K25
open PySem PySem.W PySem.Calls PyProof.Rows
set_option maxHeartbeats 0 in
theorem holds (hrun1 : ∀ ns : List Int, ns.length ≤ 63 → ∃ fuel S', Mp.run (L.pg fuel) 60 f_law [.scr ns] [] = .ok (.bl true) S') : PySem.Challenge.rw_runstead_k25_layouts.Holds := by
  w_on; o_law
  refine HandSHeadRun.head_any (r := OpenLaw.row PySem.Challenge.rw_runstead_k25_layouts) (q := view (OpenLaw.row PySem.Challenge.rw_runstead_k25_layouts).prog [30]) (H := K25.hk) (ob := K25.ob) (M := 3000) (loose := K25.loose) (d := HandSHeadRun.topDef (OpenLaw.row PySem.Challenge.rw_runstead_k25_layouts).prog 30) (kwd := []) K25.ob_eq
    (by kernel_rfl) (fun s => by kernel_rfl) K25.hrun (by kernel_rfl) (by kernel_rfl) (by kernel_rfl) (by rfl) (by first | assumption | decide +kernel) (by decide +kernel) ⟨rfl, rfl, rfl, rfl, rfl, by decide +kernel⟩ ?hw ?hc
  case hw => w_witness2
  case hc =>
    refine L2.walk_ofE (l := PySem.Challenge.rw_runstead_k25_layouts) (n := 63) (k := 60) (x := "script") (CX := L2.CX0) rfl (by decide) (by kernel_rfl) ⟨rfl, by decide, by decide⟩ ?F (fun _ _ _ _ z => z)
    intro w mg fa h Y G hmg0
    obtain ⟨K, KX, c⟩ := Y
    have hmg : mg ("law" : PySem.Str) = some (.ref fa) := by
      have e : (HandSHeadRun.topDef (OpenLaw.row PySem.Challenge.rw_runstead_k25_layouts).prog 30).name = ("law" : PySem.Str) := by kernel_rfl
      rw [← e]
      exact hmg0
    obtain ⟨fd, sp, hb, hsp, hF⟩ := Mp.law_facts (P := (PySem.Challenge.rw_runstead_k25_layouts).prog) (w := w) (d := d_law) (x := "law") oks (by decide) KX G (i := f_law) (k := 60) rfl rfl rfl hmg c hrun1
    exact ⟨K, fd, sp, KX, hb, hsp, hF⟩
end K25
theorem PySem.Challenge.cw_runstead_k25_layouts_holds : PySem.Challenge.rw_runstead_k25_layouts.Holds := by
  exact K25.holds K25.hrun1
