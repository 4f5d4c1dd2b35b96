import PyProof.Rows.All
import Wide.All
import OpenK.AllK
import Wide.FinOn
import HandS.ForMost
import HandS.TupAny
import HandS.TupLe
import HandS.TupMul
import HandS.Zip
import HandS.Rev
import HandS.Conv
import HandS.Deep
import HandS.SortInts
import HandS.IsInst
import HandS.Style
import HandS.Strs
import HandS.SetFor
import HandS.More
import PySem.Challenge.RW_playershouse_k53_whole_winners_by_widest
set_option Elab.async false
set_option linter.all false
set_option maxRecDepth 100000
namespace Mini
open PySem PySem.Spec PyProof.Rows L2

/-- data without addresses -/
inductive D where
  | non | bl (b : Bool) | int (i : Int) | str (x : Str)
  | tup (ds : List D) | lst (ds : List D)
  | dic (ks : List Key) (ds : List D)
  | obj (c : Nat) (ns : List Str) (ds : List D)
  | scr (ns : List Int)
/-- what a name holds: data, or a changing thing of the store (a row of one) -/
inductive Vl where
  | d (x : D) | r (n : Nat) | rr (n i : Nat)
/-- a changing thing -/
inductive Cell where
  | dead | lst (ds : List D) | grid (rs : List (List D)) | dic (ks : List Key) (ds : List D) | obj (c : Nat) (ns : List Str) (ds : List D)
abbrev Store := List Cell
abbrev Rho := List (Option Vl)

/-- the program's written part, its classes -/
structure Sit where
  K : PySem.W.Frag
  cls : Nat → Option Addr

/-- where the changing things lie; nu: what must stand untouched -/
structure Wd where
  nu : List Addr
  io : List (List Addr)
def Wd.mu (w : Wd) : List Addr := w.nu ++ w.io.flatten

def FrzL (K : PySem.W.Frag) (mu : List Addr) (H : Hp) (a : Addr) (xs : List V) : Prop :=
  (Rd H a (.lst xs) ∧ a ∉ mu) ∨ ∃ (o : Obj) (its : Array Value) (n : Nat), K.lookup a = some o ∧ o.cls = .type "list" ∧ o.dict = none ∧ o.data = .seq its n ∧ its.size ≤ sizeLine ∧ Vals xs its.toList
theorem FrzL.sq {K mu H a xs} (h : FrzL K mu H a xs) : SqL K H a xs := h.elim (fun h => .inl h.1) .inr
mutual
inductive Rep (G : Sit) (mu : List Addr) (H : Hp) : D → V → Prop
  | non : Rep G mu H .non .non
  | bl (b : Bool) : Rep G mu H (.bl b) (.bl b)
  | int (i : Int) : Rep G mu H (.int i) (.int i)
  | str (x : Str) : Rep G mu H (.str x) (.str x)
  | tup {a : Addr} {o : Obj} {vs : List V} {ds : List D} : H a = some (.frz o (.tup vs)) → o.dict = none → a ∉ mu → RepL G mu H ds vs → Rep G mu H (.tup ds) (.ref a)
  | lst {a : Addr} {vs : List V} {ds : List D} : H a = some (.lst vs) → a ∉ mu → RepL G mu H ds vs → Rep G mu H (.lst ds) (.ref a)
  | scr {a : Addr} {ns : List Int} : FrzL G.K mu H a (ns.map V.int) → Rep G mu H (.scr ns) (.ref a)
  | dic {a : Addr} {vs : List V} {ks : List Key} {ds : List D} : H a = some (.dK (ks.zip vs)) → a ∉ mu → ks.length = vs.length → RepL G mu H ds vs → Rep G mu H (.dic ks ds) (.ref a)
  | obj {a dx C : Addr} {vs : List V} {c : Nat} {ns : List Str} {ds : List D} : H a = some (.ins C dx (ns.zip vs)) → a ∉ mu → G.cls c = some C → ns.length = vs.length → RepL G mu H ds vs → Rep G mu H (.obj c ns ds) (.ref a)
inductive RepL (G : Sit) (mu : List Addr) (H : Hp) : List D → List V → Prop
  | nil : RepL G mu H [] []
  | cons {d : D} {v : V} {ds : List D} {vs : List V} : Rep G mu H d v → RepL G mu H ds vs → RepL G mu H (d :: ds) (v :: vs)
end

theorem RepL.length {G mu H} : ∀ {ds : List D} {vs : List V}, RepL G mu H ds vs → ds.length = vs.length
  | _, _, .nil => rfl
  | _, _, .cons _ t => by rw [List.length_cons, List.length_cons, RepL.length t]
theorem RepL.get {G mu H} : ∀ {ds : List D} {vs : List V} {i : Nat} {d : D}, RepL G mu H ds vs → ds[i]? = some d → ∃ v, vs[i]? = some v ∧ Rep G mu H d v
  | _, _, _, _, .nil, e => by simp at e
  | _, _, 0, _, .cons r _, e => by simp at e; subst e; exact ⟨_, rfl, r⟩
  | _, _, i + 1, d, .cons _ t, e => by
    obtain ⟨v, h1, h2⟩ := RepL.get (i := i) (d := d) t (by simpa using e)
    exact ⟨v, by simpa using h1, h2⟩
theorem RepL.get' {G mu H} : ∀ {ds : List D} {vs : List V} {i : Nat} {v : V}, RepL G mu H ds vs → vs[i]? = some v → ∃ d, ds[i]? = some d ∧ Rep G mu H d v
  | _, _, _, _, .nil, e => by simp at e
  | _, _, 0, _, .cons r _, e => by simp at e; subst e; exact ⟨_, rfl, r⟩
  | _, _, i + 1, v, .cons _ t, e => by
    obtain ⟨d, h1, h2⟩ := RepL.get' (i := i) (v := v) t (by simpa using e)
    exact ⟨d, by simpa using h1, h2⟩
theorem RepL.append {G mu H} : ∀ {ds es : List D} {vs ws : List V}, RepL G mu H ds vs → RepL G mu H es ws → RepL G mu H (ds ++ es) (vs ++ ws)
  | _, _, _, _, .nil, s => s
  | _, _, _, _, .cons r t, s => .cons r (RepL.append t s)
theorem RepL.set {G mu H} {d : D} {v : V} (r : Rep G mu H d v) : ∀ {ds : List D} {vs : List V} (i : Nat), RepL G mu H ds vs → RepL G mu H (ds.set i d) (vs.set i v)
  | _, _, _, .nil => .nil
  | _, _, 0, .cons _ t => .cons r t
  | _, _, i + 1, .cons q t => .cons q (RepL.set r i t)
theorem RepL.take {G mu H} : ∀ {ds : List D} {vs : List V} (n : Nat), RepL G mu H ds vs → RepL G mu H (ds.take n) (vs.take n)
  | _, _, 0, _ => .nil
  | _, _, _ + 1, .nil => .nil
  | _, _, n + 1, .cons r t => .cons r (RepL.take n t)
theorem RepL.drop {G mu H} : ∀ {ds : List D} {vs : List V} (n : Nat), RepL G mu H ds vs → RepL G mu H (ds.drop n) (vs.drop n)
  | _, _, 0, r => r
  | _, _, _ + 1, .nil => .nil
  | _, _, n + 1, .cons _ t => RepL.drop n t
theorem RepL.eraseIdx {G mu H} : ∀ {ds : List D} {vs : List V} (n : Nat), RepL G mu H ds vs → RepL G mu H (ds.eraseIdx n) (vs.eraseIdx n)
  | _, _, _, .nil => .nil
  | _, _, 0, .cons _ t => t
  | _, _, n + 1, .cons r t => .cons r (RepL.eraseIdx n t)
theorem RepL.reverse {G mu H} : ∀ {ds : List D} {vs : List V}, RepL G mu H ds vs → RepL G mu H ds.reverse vs.reverse
  | _, _, .nil => .nil
  | _, _, .cons r t => by
    rw [List.reverse_cons, List.reverse_cons]
    exact (RepL.reverse t).append (.cons r .nil)
theorem RepL.dropLast {G mu H} {ds : List D} {vs : List V} (h : RepL G mu H ds vs) : RepL G mu H ds.dropLast vs.dropLast := by
  rw [List.dropLast_eq_take, List.dropLast_eq_take, h.length]
  exact h.take _
theorem RepL.ints {G mu H} : ∀ {ns : List Int} {vs : List V}, RepL G mu H (ns.map D.int) vs → vs = ns.map V.int
  | [], _, h => by cases h; rfl
  | n :: ns, _, h => by
    cases h with
    | cons r t => cases r; rw [RepL.ints t]; rfl
theorem RepL.of_ints {G mu H} : ∀ (ns : List Int), RepL G mu H (ns.map D.int) (ns.map V.int)
  | [] => .nil
  | n :: ns => .cons (.int n) (RepL.of_ints ns)
theorem RepL.bls {G mu H} : ∀ {ns : List Bool} {vs : List V}, RepL G mu H (ns.map D.bl) vs → vs = ns.map V.bl
  | [], _, h => by cases h; rfl
  | n :: ns, _, h => by
    cases h with
    | cons r t => cases r; rw [RepL.bls t]; rfl

/-- what is not changing is kept -/
structure Kept (mu mu' : List Addr) (H H' : Hp) : Prop where
  keep : ∀ a o, H a = some o → a ∉ mu → H' a = some o
  out : ∀ a o, H a = some o → a ∉ mu → a ∉ mu'
theorem Kept.refl (mu : List Addr) (H : Hp) : Kept mu mu H H := ⟨fun _ _ h _ => h, fun _ _ _ h => h⟩
theorem Kept.trans {m1 m2 m3 : List Addr} {H1 H2 H3 : Hp} (a : Kept m1 m2 H1 H2) (b : Kept m2 m3 H2 H3) : Kept m1 m3 H1 H3 :=
  ⟨fun c o h n => b.keep c o (a.keep c o h n) (a.out c o h n), fun c o h n => b.out c o (a.keep c o h n) (a.out c o h n)⟩
theorem Kept.frzL {K : PySem.W.Frag} {mu mu' : List Addr} {H H' : Hp} {a : Addr} {xs : List V} (k : Kept mu mu' H H') (h : FrzL K mu H a xs) : FrzL K mu' H' a xs := by
  rcases h with ⟨h | ⟨o, h⟩, n⟩ | h
  · exact .inl ⟨.inl (k.keep _ _ h n), k.out _ _ h n⟩
  · exact .inl ⟨.inr ⟨o, k.keep _ _ h n⟩, k.out _ _ h n⟩
  · exact .inr h
mutual
theorem Kept.rep {G : Sit} {mu mu' : List Addr} {H H' : Hp} (k : Kept mu mu' H H') : ∀ {d : D} {v : V}, Rep G mu H d v → Rep G mu' H' d v
  | .non, _, h => by cases h; exact .non
  | .bl _, _, h => by cases h; exact .bl _
  | .int _, _, h => by cases h; exact .int _
  | .str _, _, h => by cases h; exact .str _
  | .tup ds, _, h => by cases h with | tup a e n b => exact .tup (k.keep _ _ a n) e (k.out _ _ a n) (k.repL b)
  | .lst ds, _, h => by cases h with | lst a n b => exact .lst (k.keep _ _ a n) (k.out _ _ a n) (k.repL b)
  | .scr ns, _, h => by cases h with | scr a => exact .scr (k.frzL a)
  | .dic ks ds, _, h => by cases h with | dic a n l b => exact .dic (k.keep _ _ a n) (k.out _ _ a n) l (k.repL b)
  | .obj c ns ds, _, h => by cases h with | obj a n e l b => exact .obj (k.keep _ _ a n) (k.out _ _ a n) e l (k.repL b)
theorem Kept.repL {G : Sit} {mu mu' : List Addr} {H H' : Hp} (k : Kept mu mu' H H') : ∀ {ds : List D} {vs : List V}, RepL G mu H ds vs → RepL G mu' H' ds vs
  | [], _, h => by cases h; exact .nil
  | d :: ds, _, h => by cases h with | cons a b => exact .cons (k.rep a) (k.repL b)
end

/-- a cell as it lies -/
def CellOk (G : Sit) (mu : List Addr) (H : Hp) : Cell → List Addr → Prop
  | .dead, p => p = []
  | .lst ds, p => ∃ a vs, p = [a] ∧ H a = some (.lst vs) ∧ RepL G mu H ds vs
  | .grid rs, p => ∃ a bs, p = a :: bs ∧ H a = some (.lst (bs.map V.ref)) ∧ bs.length = rs.length ∧ ∀ (i : Nat) (b : Addr) (ds : List D), bs[i]? = some b → rs[i]? = some ds → ∃ vs, H b = some (.lst vs) ∧ RepL G mu H ds vs
  | .dic ks ds, p => ∃ a vs, p = [a] ∧ H a = some (.dK (ks.zip vs)) ∧ ks.length = vs.length ∧ RepL G mu H ds vs
  | .obj c ns ds, p => ∃ a dx C vs, p = [a] ∧ H a = some (.ins C dx (ns.zip vs)) ∧ G.cls c = some C ∧ ns.length = vs.length ∧ RepL G mu H ds vs
theorem CellOk.there {G : Sit} {mu : List Addr} {H : Hp} {c : Cell} {p : List Addr} (h : CellOk G mu H c p) : ∀ a ∈ p, ∃ o, H a = some o := by
  intro a ha
  cases c with
  | dead => rw [show p = [] from h] at ha; cases ha
  | lst ds => obtain ⟨b, vs, rfl, e, _⟩ := h; simp at ha; subst ha; exact ⟨_, e⟩
  | grid rs =>
    obtain ⟨b, bs, rfl, e, l, q⟩ := h
    rcases List.mem_cons.mp ha with rfl | ha
    · exact ⟨_, e⟩
    · obtain ⟨i, hi, hb⟩ := List.mem_iff_getElem.mp ha
      have h2 : i < rs.length := by omega
      obtain ⟨vs, e, _⟩ := q i a rs[i] (by rw [List.getElem?_eq_getElem hi, hb]) (List.getElem?_eq_getElem h2)
      exact ⟨_, e⟩
  | dic ks ds => obtain ⟨b, vs, rfl, e, _⟩ := h; simp at ha; subst ha; exact ⟨_, e⟩
  | obj c ns ds => obtain ⟨b, dx, C, vs, rfl, e, _⟩ := h; simp at ha; subst ha; exact ⟨_, e⟩
/-- a cell whose own objects are kept -/
theorem CellOk.kept {G : Sit} {mu mu' : List Addr} {H H' : Hp} {c : Cell} {p : List Addr} (h : CellOk G mu H c p) (k : Kept mu mu' H H') (s : ∀ a ∈ p, H' a = H a) : CellOk G mu' H' c p := by
  cases c with
  | dead => exact h
  | lst ds => obtain ⟨b, vs, rfl, e, r⟩ := h; exact ⟨b, vs, rfl, (s b (by simp)).trans e, k.repL r⟩
  | grid rs =>
    obtain ⟨b, bs, rfl, e, l, q⟩ := h
    refine ⟨b, bs, rfl, (s b (by simp)).trans e, l, fun i b2 ds h1 h2 => ?_⟩
    obtain ⟨vs, e, r⟩ := q i b2 ds h1 h2
    exact ⟨vs, (s b2 (List.mem_cons_of_mem _ (List.mem_of_getElem? h1))).trans e, k.repL r⟩
  | dic ks ds => obtain ⟨b, vs, rfl, e, l, r⟩ := h; exact ⟨b, vs, rfl, (s b (by simp)).trans e, l, k.repL r⟩
  | obj c ns ds => obtain ⟨b, dx, C, vs, rfl, e, h1, l, r⟩ := h; exact ⟨b, dx, C, vs, rfl, (s b (by simp)).trans e, h1, l, k.repL r⟩

structure StOk (G : Sit) (w : Wd) (H : Hp) (st : Store) : Prop where
  len : st.length = w.io.length
  nd : w.mu.Nodup
  res : ∀ a ∈ w.nu, ∃ o, H a = some o
  cell : ∀ (n : Nat) (c : Cell) (p : List Addr), st[n]? = some c → w.io[n]? = some p → CellOk G w.mu H c p

/-- from one state to a later one -/
structure Mono (w w' : Wd) (H H' : Hp) : Prop extends Kept w.mu w'.mu H H' where
  nu : w'.nu = w.nu
  res : ∀ a ∈ w.nu, H' a = H a
  ext : ∀ (n : Nat) (p : List Addr), w.io[n]? = some p → w'.io[n]? = some p ∨ w'.io[n]? = some []
theorem Mono.refl (w : Wd) (H : Hp) : Mono w w H H := ⟨Kept.refl _ _, rfl, fun _ _ => rfl, fun _ _ h => .inl h⟩
theorem Mono.trans {w1 w2 w3 : Wd} {H1 H2 H3 : Hp} (a : Mono w1 w2 H1 H2) (b : Mono w2 w3 H2 H3) : Mono w1 w3 H1 H3 :=
  ⟨a.toKept.trans b.toKept, b.nu.trans a.nu, fun c h => (b.res c (by rw [a.nu]; exact h)).trans (a.res c h), fun n p h => by
    rcases a.ext n p h with h | h
    · exact b.ext n p h
    · rcases b.ext n [] h with h | h
      · exact .inr h
      · exact .inr h⟩

def RepV (G : Sit) (w : Wd) (H : Hp) : Vl → V → Prop
  | .d x, v => Rep G w.mu H x v
  | .r n, v => ∃ p, w.io[n]? = some p ∧ ∀ a q, p = a :: q → v = .ref a
  | .rr n i, v => ∃ p, w.io[n]? = some p ∧ ∀ a q b, p = a :: q → q[i]? = some b → v = .ref b
theorem Mono.repV {G : Sit} {w w' : Wd} {H H' : Hp} (m : Mono w w' H H') {x : Vl} {v : V} (h : RepV G w H x v) : RepV G w' H' x v := by
  cases x with
  | d x => exact m.toKept.rep h
  | r n =>
    obtain ⟨p, e, q⟩ := h
    rcases m.ext n p e with e | e
    · exact ⟨p, e, q⟩
    · exact ⟨[], e, fun a q z => by cases z⟩
  | rr n i =>
    obtain ⟨p, e, q⟩ := h
    rcases m.ext n p e with e | e
    · exact ⟨p, e, q⟩
    · exact ⟨[], e, fun a q b z => by cases z⟩
def RepVs (G : Sit) (w : Wd) (H : Hp) : List Vl → List V → Prop := Paired (RepV G w H)
theorem Mono.repVs {G : Sit} {w w' : Wd} {H H' : Hp} (m : Mono w w' H H') : ∀ {xs : List Vl} {vs : List V}, RepVs G w H xs vs → RepVs G w' H' xs vs
  | _, _, .nil => .nil
  | _, _, .cons r t => .cons (m.repV r) (m.repVs t)

structure EnvOk (G : Sit) (w : Wd) (H : Hp) (sg : L2.St) (rho : Rho) : Prop where
  len : rho.length = sg.length
  get : ∀ (i : Nat) (x : Vl), rho[i]? = some (some x) → ∃ v, sg[i]? = some (some v) ∧ RepV G w H x v
theorem Mono.env {G : Sit} {w w' : Wd} {H H' : Hp} {sg : L2.St} {rho : Rho} (m : Mono w w' H H') (h : EnvOk G w H sg rho) : EnvOk G w' H' sg rho :=
  ⟨h.len, fun i x e => let ⟨v, e1, r⟩ := h.get i x e; ⟨v, e1, m.repV r⟩⟩
theorem EnvOk.set {G : Sit} {w : Wd} {H : Hp} {sg : L2.St} {rho : Rho} (h : EnvOk G w H sg rho) {x : Vl} {v : V} (r : RepV G w H x v) (i : Nat) : EnvOk G w H (sg.set i (some v)) (rho.set i (some x)) := by
  refine ⟨by rw [List.length_set, List.length_set]; exact h.len, fun j y e => ?_⟩
  by_cases hj : i = j
  · subst hj
    by_cases hi : i < rho.length
    · rw [List.getElem?_set_self hi] at e
      cases e
      exact ⟨v, List.getElem?_set_self (by rw [← h.len]; exact hi), r⟩
    · rw [List.getElem?_eq_none (by simpa using hi)] at e
      cases e
  · rw [List.getElem?_set_ne hj] at e
    rw [List.getElem?_set_ne hj]
    exact h.get j y e

/-! ### steps of the heap -/
theorem StOk.there {G : Sit} {w : Wd} {H : Hp} {st : Store} (h : StOk G w H st) : ∀ a ∈ w.mu, ∃ o, H a = some o := by
  intro a ha
  rcases List.mem_append.mp ha with ha | ha
  · exact h.res a ha
  · obtain ⟨p, hp, ha⟩ := List.mem_flatten.mp ha
    obtain ⟨n, hn, e⟩ := List.mem_iff_getElem.mp hp
    have h2 : n < st.length := by rw [h.len]; exact hn
    exact (h.cell n st[n] p (List.getElem?_eq_getElem h2) (by rw [List.getElem?_eq_getElem hn, e])).there a ha
/-- a new object that nobody will change -/
theorem Mono.fresh {G : Sit} {w : Wd} {H : Hp} {st : Store} (S : StOk G w H st) {p : Addr} {o : HO} (hp : H p = none) : Mono w w H (upd H p o) ∧ StOk G w (upd H p o) st ∧ p ∉ w.mu := by
  have hn : p ∉ w.mu := fun z => by obtain ⟨o, e⟩ := S.there p z; rw [hp] at e; cases e
  have k : Kept w.mu w.mu H (upd H p o) := ⟨fun a u h _ => by rw [upd_ne (ne_of_none h hp)]; exact h, fun _ _ _ h => h⟩
  have ne : ∀ a ∈ w.mu, upd H p o a = H a := fun a h => upd_ne (fun z => hn (z ▸ h))
  refine ⟨⟨k, rfl, fun a h => ne a (List.mem_append_left _ h), fun _ _ h => .inl h⟩, ⟨S.len, S.nd, fun a h => by rw [ne a (List.mem_append_left _ h)]; exact S.res a h, fun n c q h1 h2 => (S.cell n c q h1 h2).kept k fun a ha => ne a ?_⟩, hn⟩
  exact List.mem_append_right _ (List.mem_flatten.mpr ⟨q, List.mem_of_getElem? h2, ha⟩)
/-- a new changing thing (its one object new) -/
theorem Mono.alloc {G : Sit} {w : Wd} {H : Hp} {st : Store} (S : StOk G w H st) {p : Addr} {o : HO} (hp : H p = none) {c : Cell} (hc : ∀ mu', p ∈ mu' → Kept w.mu mu' H (upd H p o) → CellOk G mu' (upd H p o) c [p]) :
    Mono w ⟨w.nu, w.io ++ [[p]]⟩ H (upd H p o) ∧ StOk G ⟨w.nu, w.io ++ [[p]]⟩ (upd H p o) (st ++ [c]) := by
  have hn : p ∉ w.mu := fun z => by obtain ⟨o, e⟩ := S.there p z; rw [hp] at e; cases e
  have emu : (⟨w.nu, w.io ++ [[p]]⟩ : Wd).mu = w.mu ++ [p] := by
    unfold Wd.mu
    simp [List.flatten_append]
  have k : Kept w.mu (⟨w.nu, w.io ++ [[p]]⟩ : Wd).mu H (upd H p o) := by
    rw [emu]
    refine ⟨fun a u h _ => by rw [upd_ne (ne_of_none h hp)]; exact h, fun a u h n z => ?_⟩
    rcases List.mem_append.mp z with z | z
    · exact n z
    · simp at z; subst z; rw [hp] at h; cases h
  have ne : ∀ a ∈ w.mu, upd H p o a = H a := fun a h => upd_ne (fun z => hn (z ▸ h))
  refine ⟨⟨k, rfl, fun a h => ne a (List.mem_append_left _ h), fun n q h => .inl ?_⟩, ⟨?_, ?_, fun a h => by rw [ne a (List.mem_append_left _ h)]; exact S.res a h, fun n d q h1 h2 => ?_⟩⟩
  · show (w.io ++ [[p]])[n]? = some q
    have hlt : n < w.io.length := by
      by_cases h' : n < w.io.length
      · exact h'
      · rw [List.getElem?_eq_none (by omega)] at h; cases h
    rw [List.getElem?_append_left hlt]
    exact h
  · show (st ++ [c]).length = (w.io ++ [[p]]).length
    rw [List.length_append, List.length_append, S.len]
    rfl
  · rw [emu]
    exact List.nodup_append.mpr ⟨S.nd, by simp, fun a ha b hb => by simp at hb; subst hb; exact fun z => hn (z ▸ ha)⟩
  · have h2' : (w.io ++ [[p]])[n]? = some q := h2
    by_cases hlt : n < w.io.length
    · rw [List.getElem?_append_left hlt] at h2'
      rw [List.getElem?_append_left (by rw [S.len]; exact hlt)] at h1
      exact (S.cell n d q h1 h2').kept k fun a ha => ne a (List.mem_append_right _ (List.mem_flatten.mpr ⟨q, List.mem_of_getElem? h2', ha⟩))
    · have hlt2 : n < (w.io ++ [[p]]).length := by
        by_cases h' : n < (w.io ++ [[p]]).length
        · exact h'
        · rw [List.getElem?_eq_none (by omega)] at h2'; cases h2'
      have en : n = w.io.length := by simp at hlt2; omega
      subst en
      rw [List.getElem?_append_right (Nat.le_refl _)] at h2'
      simp at h2'
      subst h2'
      rw [← S.len, List.getElem?_append_right (Nat.le_refl _)] at h1
      simp at h1
      subst h1
      exact hc _ (by rw [emu]; simp) k
/-- where an address of a cell stands -/
theorem StOk.apart {G : Sit} {w : Wd} {H : Hp} {st : Store} (S : StOk G w H st) {n m : Nat} {p q : List Addr} {a : Addr} (h1 : w.io[n]? = some p) (h2 : w.io[m]? = some q) (ha : a ∈ p) (hb : a ∈ q) : n = m := by
  have nd : w.io.flatten.Nodup := (List.nodup_append.mp S.nd).2.1
  obtain ⟨i1, e1⟩ := List.getElem?_eq_some_iff.mp h1
  obtain ⟨i2, e2⟩ := List.getElem?_eq_some_iff.mp h2
  by_cases hnm : n = m
  · exact hnm
  · exfalso
    have pw := (List.pairwise_flatten.mp nd).2
    rw [List.pairwise_iff_getElem] at pw
    rcases Nat.lt_or_gt_of_ne hnm with h | h
    · exact pw n m i1 i2 h a (by rw [e1]; exact ha) a (by rw [e2]; exact hb) rfl
    · exact pw m n i2 i1 h a (by rw [e2]; exact hb) a (by rw [e1]; exact ha) rfl
theorem StOk.in_mu {w : Wd} {n : Nat} {p : List Addr} {a : Addr} (h : w.io[n]? = some p) (ha : a ∈ p) : a ∈ w.mu :=
  List.mem_append_right _ (List.mem_flatten.mpr ⟨p, List.mem_of_getElem? h, ha⟩)
theorem StOk.not_nu {G : Sit} {w : Wd} {H : Hp} {st : Store} (S : StOk G w H st) {n : Nat} {p : List Addr} {a : Addr} (h : w.io[n]? = some p) (ha : a ∈ p) : a ∉ w.nu := fun z =>
  (List.nodup_append.mp S.nd).2.2 a z a (List.mem_flatten.mpr ⟨p, List.mem_of_getElem? h, ha⟩) rfl
/-- an object of a cell changes -/
theorem Mono.write {G : Sit} {w : Wd} {H : Hp} {st : Store} (S : StOk G w H st) {n : Nat} {p : List Addr} {a : Addr} {o : HO} {c : Cell} (hw : w.io[n]? = some p) (ha : a ∈ p) (hc : Kept w.mu w.mu H (upd H a o) → CellOk G w.mu (upd H a o) c p) :
    Mono w w H (upd H a o) ∧ StOk G w (upd H a o) (st.set n c) := by
  have hm := StOk.in_mu hw ha
  have k : Kept w.mu w.mu H (upd H a o) := ⟨fun b u h z => by rw [upd_ne (fun e : b = a => z (by rw [e]; exact hm))]; exact h, fun _ _ _ h => h⟩
  have hnu := S.not_nu hw ha
  refine ⟨⟨k, rfl, fun b h => upd_ne (fun z : b = a => hnu (by rw [← z]; exact h)), fun _ _ h => .inl h⟩, ⟨by rw [List.length_set]; exact S.len, S.nd, fun b h => by rw [upd_ne (fun z : b = a => hnu (by rw [← z]; exact h))]; exact S.res b h, fun m d q h1 h2 => ?_⟩⟩
  by_cases hnm : n = m
  · subst hnm
    rw [hw] at h2
    cases h2
    have hlt : n < st.length := by
      by_cases h' : n < st.length
      · exact h'
      · rw [List.getElem?_eq_none (by simpa using h')] at h1; cases h1
    rw [List.getElem?_set_self hlt] at h1
    cases h1
    exact hc k
  · rw [List.getElem?_set_ne hnm] at h1
    exact (S.cell m d q h1 h2).kept k fun b hb => upd_ne (fun z : b = a => hnm (S.apart hw h2 ha (by rw [← z]; exact hb)))
end Mini

set_option Elab.async false
set_option linter.all false
set_option maxRecDepth 100000
namespace Mini
open PySem PySem.Spec PyProof.Rows L2

abbrev lim : Nat := 16777216
theorem lim_eq : sizeLine = lim := sizeLine_eq

/-! ### what a value is, seen through the store -/
def lstOf (st : Store) : Vl → Option (List D)
  | .d (.lst ds) => some ds
  | .r n => match st[n]? with
    | some (.lst ds) => some ds
    | _ => none
  | .rr n i => match st[n]? with
    | some (.grid rs) => rs[i]?
    | _ => none
  | _ => none
def seqOf (st : Store) : Vl → Option (List D)
  | .d (.tup ds) => some ds
  | x => lstOf st x
section
variable {G : Sit} {w : Wd} {H : Hp} {st : Store}
theorem lstOf_ok (S : StOk G w H st) {x : Vl} {v : V} {ds : List D} (r : RepV G w H x v) (h : lstOf st x = some ds) : ∃ p vs, v = .ref p ∧ H p = some (.lst vs) ∧ RepL G w.mu H ds vs := by
  cases x with
  | d x =>
    cases x with
    | lst es =>
      cases h
      cases (show Rep G w.mu H (.lst ds) v from r) with
      | lst a n b => exact ⟨_, _, rfl, a, b⟩
    | _ => cases h
  | r n =>
    obtain ⟨p, e, q⟩ := r
    simp only [lstOf] at h
    split at h
    · rename_i es hes
      cases h
      obtain ⟨a, vs, rfl, e1, r1⟩ := S.cell n _ p hes e
      exact ⟨a, vs, q a [] rfl, e1, r1⟩
    · cases h
  | rr n i =>
    obtain ⟨p, e, q⟩ := r
    simp only [lstOf] at h
    split at h
    · rename_i rs hes
      obtain ⟨a, bs, rfl, e1, l, q2⟩ := S.cell n _ p hes e
      have hi : i < bs.length := by
        rw [l]
        by_cases h' : i < rs.length
        · exact h'
        · rw [List.getElem?_eq_none (by omega)] at h; cases h
      obtain ⟨vs, e3, r3⟩ := q2 i bs[i] ds (List.getElem?_eq_getElem hi) h
      exact ⟨bs[i], vs, q a bs bs[i] rfl (List.getElem?_eq_getElem hi), e3, r3⟩
    · cases h
theorem seqOf_ok {K : PySem.W.Frag} (S : StOk G w H st) {x : Vl} {v : V} {ds : List D} (r : RepV G w H x v) (h : seqOf st x = some ds) : ∃ p vs, v = .ref p ∧ (SqL K H p vs ∨ SqT K H p vs) ∧ RepL G w.mu H ds vs := by
  have other : lstOf st x = some ds → ∃ p vs, v = .ref p ∧ (SqL K H p vs ∨ SqT K H p vs) ∧ RepL G w.mu H ds vs := fun h => by
    obtain ⟨p, vs, e, e1, r1⟩ := lstOf_ok S r h
    exact ⟨p, vs, e, .inl (SqL.of e1), r1⟩
  cases x with
  | d x =>
    cases x with
    | tup es =>
      cases h
      cases (show Rep G w.mu H (.tup ds) v from r) with
      | tup a e n b => exact ⟨_, _, rfl, .inr (.inl (.inr ⟨_, a⟩)), b⟩
    | _ => exact other h
  | r n => exact other h
  | rr n i => exact other h

/-! ### new things that nobody changes -/
theorem newTup (S : StOk G w H st) {p : Addr} (hp : H p = none) {o : Obj} (ho : o.dict = none) {ds : List D} {vs : List V} (r : RepL G w.mu H ds vs) :
    Mono w w H (upd H p (.frz o (.tup vs))) ∧ StOk G w (upd H p (.frz o (.tup vs))) st ∧ Rep G w.mu (upd H p (.frz o (.tup vs))) (.tup ds) (.ref p) := by
  obtain ⟨m, s, n⟩ := Mono.fresh (o := .frz o (.tup vs)) S hp
  exact ⟨m, s, .tup upd_same ho n (m.toKept.repL r)⟩
theorem newLst (S : StOk G w H st) {p : Addr} (hp : H p = none) {ds : List D} {vs : List V} (r : RepL G w.mu H ds vs) :
    Mono w w H (upd H p (.lst vs)) ∧ StOk G w (upd H p (.lst vs)) st ∧ Rep G w.mu (upd H p (.lst vs)) (.lst ds) (.ref p) := by
  obtain ⟨m, s, n⟩ := Mono.fresh (o := .lst vs) S hp
  exact ⟨m, s, .lst upd_same n (m.toKept.repL r)⟩
end

/-! ### readings of rules by values -/
/-- the end of a rule: the value c, the store st' -/
def Fin (G : Sit) (w : Wd) (H : Hp) (c : Vl) (st' : Store) (Q : VK) : Prop := ∀ w' H' v, Mono w w' H H' → StOk G w' H' st' → RepV G w' H' c v → Q v H'
theorem Fin.now {G : Sit} {w : Wd} {H : Hp} {c : Vl} {st : Store} {Q : VK} (f : Fin G w H c st Q) (S : StOk G w H st) {v : V} (r : RepV G w H c v) : Q v H := f w H v (Mono.refl w H) S r
def rV1 (G : Sit) (g : Store → Vl → Option Vl) : V → Hp → VK → Prop := fun x H Q => ∃ w st a c, StOk G w H st ∧ RepV G w H a x ∧ g st a = some c ∧ Fin G w H c st Q
def rV2 (G : Sit) (g : Store → Vl → Vl → Option Vl) : R2 := fun x y H Q => ∃ w st a b c, StOk G w H st ∧ RepV G w H a x ∧ RepV G w H b y ∧ g st a b = some c ∧ Fin G w H c st Q
def rVc (G : Sit) (g : Store → List Vl → Option Vl) : List V → Hp → VK → Prop := fun xs H Q => ∃ w st as c, StOk G w H st ∧ RepVs G w H as xs ∧ g st as = some c ∧ Fin G w H c st Q
def rVm (G : Sit) (g : Store → Vl → List Vl → Option (Vl × Store)) : V → List V → Hp → VK → Prop := fun x xs H Q => ∃ w st a as c st', StOk G w H st ∧ RepV G w H a x ∧ RepVs G w H as xs ∧ g st a as = some (c, st') ∧ Fin G w H c st' Q

section
variable {X : Cx} {G : Sit}
theorem OpR.imp {f : Value → Value → Sem Value} {r r' : R2} (h : OpR X f r) (hi : ∀ x y H Q, r' x y H Q → r x y H Q) : OpR X f r' := fun pins s σ H x y v u Q I rx ry q => h pins s σ H x y v u Q I rx ry (hi _ _ _ _ q)
theorem CallR.imp {f : Value} {r r' : List V → Hp → VK → Prop} (h : CallR X f r) (hi : ∀ xs H Q, r' xs H Q → r xs H Q) : CallR X f r' := fun pins s σ H xs us Q I r q => h pins s σ H xs us Q I r (hi _ _ _ q)

/-- a new tuple object -/
theorem tupLaid {pins : List (Addr × Obj)} {σ : L2.St} {H : Hp} {s : Shared} {vs : List V} {its : List Value} (I : Inv X pins σ H s) (r : Vals vs its) (hz : vs.length ≤ sizeLine) {Q : VK}
    (q : ∀ p o, H p = none → o.dict = none → Q (.ref p) (upd H p (.frz o (.tup vs)))) :
    EP X pins σ Q (.ref s.heap.objs.size) { s with heap := s.heap.push { cls := .type "tuple", data := .seq its.toArray } } := by
  have hf : H s.heap.objs.size = none := I.hok.fresh (Nat.le_refl _)
  refine ⟨.ref s.heap.objs.size, _, I.laid (t' := s.toks) (o := .frz { cls := .type "tuple", data := .seq its.toArray } (.tup vs)) (fun b u e => Heap.get?_push_of_some _ e) (Nat.le_refl _) ?_, rfl, q _ _ hf rfl⟩
  exact ⟨Heap.get?_push_size _ rfl, hz, its, r, ⟨_, Heap.get?_push_size _ rfl, rfl, _, rfl⟩⟩

/-! ### operators -/
def addV (st : Store) (a b : Vl) : Option Vl :=
  match a, b with
  | .d (.int i), .d (.int j) => some (.d (.int (i + j)))
  | .d (.tup xs), .d (.tup ys) => if xs.length + ys.length ≤ lim then some (.d (.tup (xs ++ ys))) else none
  | a, b => match lstOf st a, lstOf st b with
    | some xs, some ys => if xs.length + ys.length ≤ lim then some (.d (.lst (xs ++ ys))) else none
    | _, _ => none
theorem op_addV : OpR X (binaryOp .Add) (rV2 G addV) := by
  intro pins s σ H x y v u Q I rx ry h
  obtain ⟨w, st, a, b, c, S, ra, rb, e, f⟩ := h
  unfold addV at e
  split at e
  · cases e
    cases ra
    cases rb
    exact op_add pins s σ H _ _ v u Q I rx ry ⟨_, _, rfl, rfl, f.now S (.int _)⟩
  · rename_i xs ys
    split at e
    · rename_i hz
      cases e
      cases ra with
      | @tup p o vs _ h1 h2 h3 h4 =>
        cases rb with
        | @tup p2 o2 vs2 _ k1 k2 k3 k4 =>
          cases rx
          cases ry
          have sa : SqT X.K H p vs := .inl (.inr ⟨_, h1⟩)
          have sb : SqT X.K H p2 vs2 := .inl (.inr ⟨_, k1⟩)
          obtain ⟨its, r1, p1, _⟩ := I.tuple sa
          obtain ⟨its2, r2, p2', _⟩ := I.tuple sb
          have e1 := h4.length
          have e2 := k4.length
          by_cases hx : its = []
          · subst hx
            cases r1
            cases h4
            exact cat_tup0 p1 p2' ⟨.ref p2, H, I, rfl, f.now S (.tup k1 k2 k3 k4)⟩
          · refine HT.cat_tup p1 p2' hx (fun hy => ?_) (fun hy => ?_) ?_
            · subst hy
              cases r2
              cases k4
              rw [List.append_nil] at f
              exact ⟨.ref p, H, I, rfl, f.now S (.tup h1 h2 h3 h4)⟩
            · refine tupLaid I (r1.append r2) ?_ fun q o hq ho => ?_
              · rw [List.length_append, ← e1, ← e2, lim_eq]; exact hz
              · obtain ⟨m, S', r'⟩ := newTup S hq ho (h4.append k4)
                exact f _ _ _ m S' r'
            · rw [← r1.length, ← r2.length, ← e1, ← e2, lim_eq]; exact hz
    · cases e
  · split at e
    · rename_i xs ys h1 h2
      split at e
      · rename_i hz
        cases e
        obtain ⟨p, vs, rfl, e1, r1⟩ := lstOf_ok S ra h1
        obtain ⟨p2, vs2, rfl, e2, r2⟩ := lstOf_ok S rb h2
        refine op_cat pins s σ H _ _ v u Q I rx ry ⟨p, p2, vs, vs2, rfl, rfl, e1, e2, ?_, fun q hq => ?_⟩
        · rw [← r1.length, ← r2.length, lim_eq]; exact hz
        · obtain ⟨m, S', r'⟩ := newLst S hq (r1.append r2)
          exact f _ _ _ m S' r'
      · cases e
    · cases e
def subV (st : Store) (a b : Vl) : Option Vl :=
  match a, b with
  | .d (.int i), .d (.int j) => some (.d (.int (i - j)))
  | _, _ => none
theorem op_subV : OpR X (binaryOp .Sub) (rV2 G subV) := by
  intro pins s σ H x y v u Q I rx ry h
  obtain ⟨w, st, a, b, c, S, ra, rb, e, f⟩ := h
  unfold subV at e
  split at e
  · cases e
    cases ra
    cases rb
    exact op_sub pins s σ H _ _ v u Q I rx ry ⟨_, _, rfl, rfl, f.now S (.int _)⟩
  · cases e
def small (i : Int) : Bool := decide (i.natAbs < 2 ^ 64)
theorem small_ok {i : Int} (h : small i = true) : -(2 ^ 64) < i ∧ i < 2 ^ 64 := by
  unfold small at h
  have := of_decide_eq_true h
  omega
def mulV (st : Store) (a b : Vl) : Option Vl :=
  match a, b with
  | .d (.int i), .d (.int j) => if small i || small j then some (.d (.int (i * j))) else none
  | a, .d (.int k) => match lstOf st a with
    | some xs => if 0 ≤ k ∧ k ≤ 1000 ∧ xs.length ≤ 1000 then some (.d (.lst (List.replicate k.toNat xs).flatten)) else none
    | _ => none
  | _, _ => none
theorem RepL.rep {G : Sit} {mu : List Addr} {H : Hp} {ds : List D} {vs : List V} (h : RepL G mu H ds vs) : ∀ k : Nat, RepL G mu H (List.replicate k ds).flatten (List.replicate k vs).flatten
  | 0 => .nil
  | k + 1 => by
    rw [List.replicate_succ, List.replicate_succ, List.flatten_cons, List.flatten_cons]
    exact h.append (RepL.rep h k)
theorem op_mulV : OpR X (binaryOp .Mult) (rV2 G mulV) := by
  intro pins s σ H x y v u Q I rx ry h
  obtain ⟨w, st, a, b, c, S, ra, rb, e, f⟩ := h
  unfold mulV at e
  split at e
  · rename_i i j
    split at e
    · rename_i hs
      cases e
      cases ra
      cases rb
      refine op_mul pins s σ H _ _ v u Q I rx ry ⟨i, j, rfl, rfl, ?_, f.now S (.int _)⟩
      rw [Bool.or_eq_true] at hs
      exact hs.imp small_ok small_ok
    · cases e
  · rename_i k _
    split at e
    · rename_i xs hxs
      split at e
      · rename_i hz
        cases e
        obtain ⟨p, vs, rfl, e1, r1⟩ := lstOf_ok S ra hxs
        cases rb
        have hl := r1.length
        refine op_rep pins s σ H _ _ v u Q I rx ry ⟨p, k, vs, rfl, rfl, e1, by omega, by omega, ?_, fun q hq => ?_⟩
        · rw [lim_eq, ← hl]
          have h1 : xs.length * k.toNat ≤ 1000 * 1000 := Nat.mul_le_mul hz.2.2 (by omega)
          exact Nat.le_trans h1 (by decide)
        · obtain ⟨m, S', r'⟩ := newLst S hq (r1.rep k.toNat)
          exact f _ _ _ m S' r'
      · cases e
    · cases e
  · cases e
def fdivV (st : Store) (a b : Vl) : Option Vl :=
  match a, b with
  | .d (.int i), .d (.int j) => if j ≠ 0 ∧ j.natAbs < 1073741824 then some (.d (.int (i.fdiv j))) else none
  | _, _ => none
theorem op_fdivV : OpR X (binaryOp .FloorDiv) (rV2 G fdivV) := by
  intro pins s σ H x y v u Q I rx ry h
  obtain ⟨w, st, a, b, c, S, ra, rb, e, f⟩ := h
  unfold fdivV at e
  split at e
  · split at e
    · rename_i hz
      cases e
      cases ra
      cases rb
      exact op_fdivN pins s σ H _ _ v u Q I rx ry ⟨_, _, rfl, rfl, hz, f.now S (.int _)⟩
    · cases e
  · cases e
def modV (st : Store) (a b : Vl) : Option Vl :=
  match a, b with
  | .d (.int i), .d (.int j) => if j ≠ 0 then some (.d (.int (i.fmod j))) else none
  | _, _ => none
theorem op_modV : OpR X (binaryOp .Mod) (rV2 G modV) := by
  intro pins s σ H x y v u Q I rx ry h
  obtain ⟨w, st, a, b, c, S, ra, rb, e, f⟩ := h
  unfold modV at e
  split at e
  · split at e
    · rename_i hz
      cases e
      cases ra
      cases rb
      exact op_modN pins s σ H _ _ v u Q I rx ry ⟨_, _, rfl, rfl, hz, f.now S (.int _)⟩
    · cases e
  · cases e
def powV (st : Store) (a b : Vl) : Option Vl :=
  match a, b with
  | .d (.int i), .d (.int j) => if 0 ≤ j ∧ j ≤ 1000000 ∧ i.natAbs < 2 ^ 64 then some (.d (.int (i ^ j.toNat))) else none
  | _, _ => none
theorem op_powV : OpR X (binaryOp .Pow) (rV2 G powV) := by
  intro pins s σ H x y v u Q I rx ry h
  obtain ⟨w, st, a, b, c, S, ra, rb, e, f⟩ := h
  unfold powV at e
  split at e
  · split at e
    · rename_i hz
      cases e
      cases ra
      cases rb
      exact op_pow pins s σ H _ _ v u Q I rx ry ⟨_, _, rfl, rfl, hz, f.now S (.int _)⟩
    · cases e
  · cases e
def negV (st : Store) : Vl → Option Vl
  | .d (.int i) => some (.d (.int (-i)))
  | _ => none
theorem un_negV : UnR X (unaryOp .USub) (rV1 G negV) := by
  intro pins s σ H x v Q I rx h
  obtain ⟨w, st, a, c, S, ra, e, f⟩ := h
  unfold negV at e
  split at e
  · cases e
    cases ra
    exact un_neg pins s σ H _ v Q I rx ⟨_, rfl, f.now S (.int _)⟩
  · cases e

/-! ### comparisons -/
mutual
def py : D → PyData
  | .bl b => .bool b
  | .int i => .int i
  | .str x => .str x
  | .tup ds => .tuple (pys ds)
  | .lst ds => .list (pys ds)
  | _ => .none
def pys : List D → List PyData
  | [] => []
  | d :: ds => py d :: pys ds
end
def plain : Nat → D → Bool
  | _, .non => true
  | _, .bl _ => true
  | _, .int _ => true
  | _, .str x => PyData.strOk x
  | n + 1, .tup ds => ds.all (plain n)
  | n + 1, .lst ds => ds.all (plain n)
  | _, _ => false
def datOf (st : Store) : Vl → Option D
  | .d x => some x
  | .r n => match st[n]? with
    | some (.lst ds) => some (.lst ds)
    | some (.grid rs) => some (.lst (rs.map D.lst))
    | _ => none
  | .rr n i => match st[n]? with
    | some (.grid rs) => match rs[i]? with
      | some ds => some (.lst ds)
      | none => none
    | _ => none
theorem plain_dp {K : PySem.W.Frag} {mu : List Addr} {H : Hp} : ∀ (n : Nat) {d : D} {v : V}, plain n d = true → Rep G mu H d v → Dp K H v (py d) ∧ (py d).canLay0 = true ∧ (py d).depth ≤ n := by
  intro n
  induction n with
  | zero =>
    intro d v hp r
    cases r with
    | non => exact ⟨.non, rfl, Nat.zero_le _⟩
    | bl b => exact ⟨.bl b, rfl, Nat.zero_le _⟩
    | int i => exact ⟨.int i, rfl, Nat.zero_le _⟩
    | str x =>
      have hp' : PyData.strOk x = true := hp
      exact ⟨.str x, by simpa [py, PyData.canLay0] using hp', by simp [py, PyData.depth]⟩
    | _ => simp [plain] at hp
  | succ n ih =>
    have all : ∀ {ds : List D} {vs : List V}, ds.all (plain n) = true → RepL G mu H ds vs → DpAll K H vs (pys ds) ∧ PyData.canLayAll0 (pys ds) = true ∧ PyData.depthAll (pys ds) ≤ n := by
      intro ds
      induction ds with
      | nil =>
        intro vs _ r
        cases r
        exact ⟨.nil, rfl, Nat.zero_le _⟩
      | cons d ds ihd =>
        intro vs hp r
        cases r with
        | cons r1 r2 =>
          rw [List.all_cons, Bool.and_eq_true] at hp
          obtain ⟨a1, a2, a3⟩ := ih hp.1 r1
          obtain ⟨b1, b2, b3⟩ := ihd hp.2 r2
          refine ⟨.cons a1 b1, by simp [pys, PyData.canLayAll0, a2, b2], ?_⟩
          simp only [pys, PyData.depthAll]
          omega
    intro d v hp r
    cases r with
    | non => exact ⟨.non, rfl, Nat.zero_le _⟩
    | bl b => exact ⟨.bl b, rfl, Nat.zero_le _⟩
    | int i => exact ⟨.int i, rfl, Nat.zero_le _⟩
    | str x => exact ⟨.str x, by simpa [py, PyData.canLay0, plain] using hp, by simp [py, PyData.depth]⟩
    | tup h1 h2 h3 h4 =>
      obtain ⟨a1, a2, a3⟩ := all (by simpa [plain] using hp) h4
      refine ⟨?_, by simpa [py, PyData.canLay0] using a2, by simp only [py, PyData.depth]; omega⟩
      rw [py]
      exact .tup (.inl (.inr ⟨_, h1⟩)) a1
    | lst h1 h3 h4 =>
      obtain ⟨a1, a2, a3⟩ := all (by simpa [plain] using hp) h4
      refine ⟨?_, by simpa [py, PyData.canLay0] using a2, by simp only [py, PyData.depth]; omega⟩
      rw [py]
      exact .lst (SqL.of h1) a1
    | _ => simp [plain] at hp
theorem plain_all {K : PySem.W.Frag} {mu : List Addr} {H : Hp} {n : Nat} : ∀ {ds : List D} {vs : List V}, ds.all (plain n) = true → RepL G mu H ds vs → DpAll K H vs (pys ds) ∧ PyData.canLayAll0 (pys ds) = true ∧ PyData.depthAll (pys ds) ≤ n := by
  intro ds
  induction ds with
  | nil =>
    intro vs _ r
    cases r
    exact ⟨.nil, rfl, Nat.zero_le _⟩
  | cons d ds ihd =>
    intro vs hp r
    cases r with
    | cons r1 r2 =>
      rw [List.all_cons, Bool.and_eq_true] at hp
      obtain ⟨a1, a2, a3⟩ := plain_dp n hp.1 r1
      obtain ⟨b1, b2, b3⟩ := ihd hp.2 r2
      refine ⟨.cons a1 b1, by simp [pys, PyData.canLayAll0, a2, b2], ?_⟩
      simp only [pys, PyData.depthAll]
      omega
theorem datOf_dp {w : Wd} {st : Store} {K : PySem.W.Frag} {H : Hp} (S : StOk G w H st) {x : Vl} {v : V} {d : D} {n : Nat} (r : RepV G w H x v) (h : datOf st x = some d) (hp : plain n d = true) : Dp K H v (py d) ∧ (py d).canLay0 = true ∧ (py d).depth ≤ n := by
  cases x with
  | d x =>
    cases h
    exact plain_dp n hp r
  | r m =>
    obtain ⟨p, e, q⟩ := r
    simp only [datOf] at h
    split at h
    · rename_i es hes
      cases h
      obtain ⟨a, vs, rfl, e1, r1⟩ := S.cell m _ p hes e
      cases n with
      | zero => simp [plain] at hp
      | succ n =>
        obtain ⟨a1, a2, a3⟩ := plain_all (K := K) (by simpa [plain] using hp) r1
        rw [q a [] rfl]
        refine ⟨?_, by simpa [py, PyData.canLay0] using a2, by simp only [py, PyData.depth]; omega⟩
        rw [py]
        exact .lst (SqL.of e1) a1
    · rename_i rs hes
      cases h
      obtain ⟨a, bs, rfl, e1, l, q2⟩ := S.cell m _ p hes e
      rw [q a bs rfl]
      cases n with
      | zero => simp [plain] at hp
      | succ n =>
        have hp' : (rs.map D.lst).all (plain n) = true := by simpa [plain] using hp
        have all : ∀ (rs : List (List D)) (bs : List Addr), bs.length = rs.length → (rs.map D.lst).all (plain n) = true → (∀ (i : Nat) (b : Addr) (ds : List D), bs[i]? = some b → rs[i]? = some ds → ∃ vs, H b = some (.lst vs) ∧ RepL G w.mu H ds vs) →
            DpAll K H (bs.map V.ref) (pys (rs.map D.lst)) ∧ PyData.canLayAll0 (pys (rs.map D.lst)) = true ∧ PyData.depthAll (pys (rs.map D.lst)) ≤ n := by
          intro rs
          induction rs with
          | nil =>
            intro bs hl _ _
            cases bs with
            | nil => exact ⟨.nil, rfl, Nat.zero_le _⟩
            | cons b bs => simp at hl
          | cons r rs ih =>
            intro bs hl hp q
            cases bs with
            | nil => simp at hl
            | cons b bs =>
              rw [List.map_cons, List.all_cons, Bool.and_eq_true] at hp
              obtain ⟨b1, b2, b3⟩ := ih bs (by simpa using hl) hp.2 fun i b ds h1 h2 => q (i + 1) b ds (by simpa using h1) (by simpa using h2)
              obtain ⟨vs, e1, r1⟩ := q 0 b r rfl rfl
              cases n with
              | zero => simp [plain] at hp
              | succ k =>
                obtain ⟨a1, a2, a3⟩ := plain_all (K := K) (by simpa [plain] using hp.1) r1
                refine ⟨.cons (.lst (SqL.of e1) a1) b1, by simp [pys, py, PyData.canLayAll0, PyData.canLay0, a2, b2], ?_⟩
                simp only [List.map_cons, pys, py, PyData.depthAll, PyData.depth]
                omega
        obtain ⟨a1, a2, a3⟩ := all rs bs l hp' q2
        refine ⟨?_, by simpa [py, PyData.canLay0] using a2, by simp only [py, PyData.depth]; omega⟩
        rw [py]
        exact .lst (SqL.of e1) a1
    · cases h
  | rr m i =>
    obtain ⟨p, e, q⟩ := r
    simp only [datOf] at h
    split at h
    · rename_i rs hes
      split at h
      · rename_i ds hds
        cases h
        obtain ⟨a, bs, rfl, e1, l, q2⟩ := S.cell m _ p hes e
        have hi : i < bs.length := by
          rw [l]
          by_cases h' : i < rs.length
          · exact h'
          · rw [List.getElem?_eq_none (by omega)] at hds; cases hds
        obtain ⟨vs, e3, r3⟩ := q2 i bs[i] ds (List.getElem?_eq_getElem hi) hds
        rw [q a bs bs[i] rfl (List.getElem?_eq_getElem hi)]
        cases n with
        | zero => simp [plain] at hp
        | succ n =>
          obtain ⟨a1, a2, a3⟩ := plain_all (K := K) (by simpa [plain] using hp) r3
          refine ⟨?_, by simpa [py, PyData.canLay0] using a2, by simp only [py, PyData.depth]; omega⟩
          rw [py]
          exact .lst (SqL.of e3) a1
      · cases h
    · cases h
def eqD (a b : D) : Bool := PyData.eqv (py a) (py b)
def eqV2 (st : Store) (a b : Vl) : Option Vl :=
  match datOf st a, datOf st b with
  | some x, some y => if plain 60 x && plain 60 y then some (.d (.bl (eqD x y))) else none
  | _, _ => none
def neV2 (st : Store) (a b : Vl) : Option Vl :=
  match datOf st a, datOf st b with
  | some x, some y => if plain 60 x && plain 60 y then some (.d (.bl (!eqD x y))) else none
  | _, _ => none
theorem shaped60 {d : PyData} (h1 : d.canLay0 = true) (h2 : d.depth ≤ 60) : SeqAt.shaped d = true := by
  unfold SeqAt.shaped
  rw [h1, Bool.true_and]
  exact decide_eq_true (by omega)
theorem op_eqV2 (hu : X.A.units + 64 < cLine) : OpR X (compareOp .Eq) (rV2 G eqV2) := by
  intro pins s σ H x y v u Q I rx ry h
  obtain ⟨w, st, a, b, c, S, ra, rb, e, f⟩ := h
  unfold eqV2 at e
  split at e
  · rename_i d1 d2 h1 h2
    split at e
    · rename_i hp
      cases e
      rw [Bool.and_eq_true] at hp
      obtain ⟨a1, a2, a3⟩ := datOf_dp (K := X.K) S ra h1 hp.1
      obtain ⟨b1, b2, b3⟩ := datOf_dp (K := X.K) S rb h2 hp.2
      exact op_eqD hu pins s σ H _ _ v u Q I rx ry ⟨_, _, a1, b1, shaped60 a2 a3, shaped60 b2 b3, f.now S (.bl _)⟩
    · cases e
  · cases e
theorem op_neV2 (hu : X.A.units + 64 < cLine) : OpR X (compareOp .NotEq) (rV2 G neV2) := by
  intro pins s σ H x y v u Q I rx ry h
  obtain ⟨w, st, a, b, c, S, ra, rb, e, f⟩ := h
  unfold neV2 at e
  split at e
  · rename_i d1 d2 h1 h2
    split at e
    · rename_i hp
      cases e
      rw [Bool.and_eq_true] at hp
      obtain ⟨a1, a2, a3⟩ := datOf_dp (K := X.K) S ra h1 hp.1
      obtain ⟨b1, b2, b3⟩ := datOf_dp (K := X.K) S rb h2 hp.2
      exact op_neD hu pins s σ H _ _ v u Q I rx ry ⟨_, _, a1, b1, shaped60 a2 a3, shaped60 b2 b3, f.now S (.bl _)⟩
    · cases e
  · cases e
/-- the ints of a tuple -/
def intsOf : List D → Option (List Int)
  | [] => some []
  | .int i :: ds => (intsOf ds).map (i :: ·)
  | _ :: _ => none
theorem intsOf_eq : ∀ {ds : List D} {ns : List Int}, intsOf ds = some ns → ds = ns.map D.int
  | [], _, h => by cases h; rfl
  | .int i :: ds, ns, h => by
    unfold intsOf at h
    cases e : intsOf ds with
    | none => rw [e] at h; cases h
    | some ms =>
      rw [e] at h
      cases h
      rw [intsOf_eq e]
      rfl
  | .non :: _, _, h | .bl _ :: _, _, h | .str _ :: _, _, h | .tup _ :: _, _, h | .lst _ :: _, _, h | .dic _ _ :: _, _, h | .obj _ _ _ :: _, _, h | .scr _ :: _, _, h => by cases h
theorem intsOf_map : ∀ (ns : List Int), intsOf (ns.map D.int) = some ns
  | [] => rfl
  | n :: ns => by
    show (intsOf (ns.map D.int)).map (n :: ·) = _
    rw [intsOf_map ns]
    rfl
def ltV (st : Store) (a b : Vl) : Option Vl :=
  match a, b with
  | .d (.int i), .d (.int j) => some (.d (.bl (decide (i < j))))
  | .d (.tup xs), .d (.tup ys) => match intsOf xs, intsOf ys with
    | some ns, some ms => some (.d (.bl (HT.lexLt ns ms)))
    | _, _ => none
  | _, _ => none
theorem op_ltV (hu : X.A.units < cLine) : OpR X (compareOp .Lt) (rV2 G ltV) := by
  intro pins s σ H x y v u Q I rx ry h
  obtain ⟨w, st, a, b, c, S, ra, rb, e, f⟩ := h
  unfold ltV at e
  split at e
  · cases e
    cases ra
    cases rb
    exact op_lt pins s σ H _ _ v u Q I rx ry ⟨_, _, rfl, rfl, f.now S (.bl _)⟩
  · split at e
    · rename_i ns ms h1 h2
      cases e
      have e1 := intsOf_eq h1
      have e2 := intsOf_eq h2
      subst e1
      subst e2
      cases ra with
      | tup k1 k2 k3 k4 =>
        cases rb with
        | tup l1 l2 l3 l4 =>
          have z1 := k4.ints
          have z2 := l4.ints
          subst z1
          subst z2
          exact op_ltT hu pins s σ H _ _ v u Q I rx ry ⟨_, _, ns, ms, rfl, rfl, .inl (.inr ⟨_, k1⟩), .inl (.inr ⟨_, l1⟩), f.now S (.bl _)⟩
    · cases e
  · cases e
def cmpV (p : Int → Int → Bool) (st : Store) (a b : Vl) : Option Vl :=
  match a, b with
  | .d (.int i), .d (.int j) => some (.d (.bl (p i j)))
  | _, _ => none
theorem op_cmpV {op : CmpOp} {p : Int → Int → Bool} (ho : OpR X (compareOp op) (rI0 fun i j => .bl (p i j))) : OpR X (compareOp op) (rV2 G (cmpV p)) := by
  intro pins s σ H x y v u Q I rx ry h
  obtain ⟨w, st, a, b, c, S, ra, rb, e, f⟩ := h
  unfold cmpV at e
  split at e
  · cases e
    cases ra
    cases rb
    exact ho pins s σ H _ _ v u Q I rx ry ⟨_, _, rfl, rfl, f.now S (.bl _)⟩
  · cases e
abbrev leV := cmpV fun i j => decide (i ≤ j)
abbrev gtV := cmpV fun i j => decide (j < i)
abbrev geV := cmpV fun i j => decide (j ≤ i)
theorem op_leV : OpR X (compareOp .LtE) (rV2 G leV) := op_cmpV op_le
theorem op_gtV : OpR X (compareOp .Gt) (rV2 G gtV) := op_cmpV op_gt
theorem op_geV : OpR X (compareOp .GtE) (rV2 G geV) := op_cmpV op_ge
/-- is None, is True .. -/
def flat : D → Bool
  | .non => true
  | .bl _ => true
  | .int _ => true
  | .str _ => true
  | _ => false
def isV (neg : Bool) (st : Store) (a b : Vl) : Option Vl :=
  match a, b with
  | .d .non, .d .non => some (.d (.bl (!neg)))
  | _, .d .non => some (.d (.bl neg))
  | .d (.bl p), .d (.bl q) => some (.d (.bl (if neg then !decide (p = q) else decide (p = q))))
  | _, _ => none
end
end Mini

set_option Elab.async false
set_option linter.all false
set_option maxRecDepth 100000
namespace Mini
open PySem PySem.Spec PyProof.Rows L2

abbrev EM := Rho → Store → Option (Vl × Store)
abbrev TM := Rho → Store → Option (Bool × Store)
abbrev AM := Rho → Store → Option (List Vl × Store)

def tE (G : Sit) (m : EM) : TE := fun σ H Q => ∃ w rho st c st', StOk G w H st ∧ EnvOk G w H σ rho ∧ m rho st = some (c, st') ∧ Fin G w H c st' Q
def tT (G : Sit) (m : TM) : TT := fun σ H Q => ∃ w rho st c st', StOk G w H st ∧ EnvOk G w H σ rho ∧ m rho st = some (c, st') ∧ ∀ w' H', Mono w w' H H' → StOk G w' H' st' → Q c H'
def tA (G : Sit) (m : AM) : TA := fun σ H Q => ∃ w rho st cs st', StOk G w H st ∧ EnvOk G w H σ rho ∧ m rho st = some (cs, st') ∧ ∀ w' H' vs, Mono w w' H H' → StOk G w' H' st' → RepVs G w' H' cs vs → Q vs H'

structure SE (X : Cx) (G : Sit) (e : Expr) (m : EM) : Prop where
  pe : PE X e (tE G m)
structure SW (X : Cx) (G : Sit) (e : Expr) (m : TM) : Prop where
  pw : PW X e (tT G m)
structure SC (X : Cx) (G : Sit) (e : Expr) (m : TM) : Prop where
  pt : PT X e (tT G m)
structure SA (X : Cx) (G : Sit) (es : List Expr) (m : AM) : Prop where
  pa : PA X es (tA G m)

section
variable {X : Cx} {G : Sit} {e a b : Expr} {es : List Expr} {m ma mb : EM} {pos : Pos}
theorem _root_.L2.PE.imp {t t' : TE} (h : PE X e t) (hi : ∀ σ H Q, t' σ H Q → t σ H Q) : PE X e t' := ⟨fun pins s σ H Q I q => h.run pins s σ H Q I (hi σ H Q q)⟩
theorem _root_.L2.PT.imp {t t' : TT} (h : PT X e t) (hi : ∀ σ H Q, t' σ H Q → t σ H Q) : PT X e t' := ⟨fun pins s σ H Q I q => h.run pins s σ H Q I (hi σ H Q q)⟩
theorem _root_.L2.PW.imp {t t' : TT} (h : PW X e t) (hi : ∀ σ H Q, t' σ H Q → t σ H Q) : PW X e t' := ⟨fun wh pins s σ H Q I q => h.run wh pins s σ H Q I (hi σ H Q q)⟩
theorem _root_.L2.PA.imp {t t' : TA} (h : PA X es t) (hi : ∀ σ H Q, t' σ H Q → t σ H Q) : PA X es t' := ⟨fun p pins s σ H Q I q => h.run p pins s σ H Q I (hi σ H Q q)⟩
theorem _root_.L2.PE.or {t t' : TE} (h : PE X e t) (h' : PE X e t') : PE X e (fun σ H Q => t σ H Q ∨ t' σ H Q) := ⟨fun pins s σ H Q I q => q.elim (h.run pins s σ H Q I) (h'.run pins s σ H Q I)⟩

/-! ### names, constants -/
def mVar (i : Nat) : EM := fun rho st => match rho[i]? with
  | some (some x) => some (x, st)
  | _ => none
def mC (d : D) : EM := fun _ st => some (.d d, st)
theorem se_var (i : Nat) {x : Str} (hN : X.N[i]? = some x := by rfl) (hv : Vis X.env.scope x := by first | exact Or.inl rfl | exact Or.inr (Or.inl rfl) | exact Or.inr (Or.inr rfl)) (hd : (x == ("__debug__" : Str)) = false := by decide)
    (hcd : (x == ("__classdict__" : Str)) = false := by decide) : SE X G (.Name x pos) (mVar i) := by
  refine ⟨(pe_var hN hv hd hcd).imp fun σ H Q h => ?_⟩
  obtain ⟨w, rho, st, c, st', S, E, e, f⟩ := h
  unfold mVar at e
  split at e
  · rename_i x hx
    cases e
    obtain ⟨v, e1, r⟩ := E.get i _ hx
    exact ⟨v, e1, f.now S r⟩
  · cases e
theorem se_c {d : D} {v : V} (h : PE X e (tC v)) (r : ∀ mu H, Rep G mu H d v) : SE X G e (mC d) := by
  refine ⟨h.imp fun σ H Q h => ?_⟩
  obtain ⟨w, rho, st, c, st', S, E, e, f⟩ := h
  cases e
  exact f.now S (r _ _)
theorem se_int {i : Int} {j : Nat} : SE X G (.Constant (.int i) j pos) (mC (.int i)) := se_c pe_int fun _ _ => .int i
theorem se_bl {b : Bool} {j : Nat} : SE X G (.Constant (.bool b) j pos) (mC (.bl b)) := se_c pe_bl fun _ _ => .bl b
theorem se_non {j : Nat} : SE X G (.Constant .none j pos) (mC .non) := se_c pe_non fun _ _ => .non
theorem se_str {x : Str} {j : Nat} : SE X G (.Constant (.str x) j pos) (mC (.str x)) := se_c pe_str fun _ _ => .str x
/-- an int of the module -/
theorem se_gint {x : Str} {i : Int} {t : Tok} (hg : Gl X x) (hm : X.mg x = some (.int i t)) (hd : (x == ("__debug__" : Str)) = false := by decide) : SE X G (.Name x pos) (mC (.int i)) :=
  se_c (pe_glob hg hm (v := .int i) ⟨t, rfl⟩ hd) fun _ _ => .int i

/-! ### operators -/
def mOp (g : Store → Vl → Vl → Option Vl) (ma mb : EM) : EM := fun rho st => (ma rho st).bind fun p => (mb rho p.2).bind fun q => (g q.2 p.1 q.1).map fun c => (c, q.2)
def mUn (g : Store → Vl → Option Vl) (ma : EM) : EM := fun rho st => (ma rho st).bind fun p => (g p.2 p.1).map fun c => (c, p.2)
theorem bindS {α β : Type} {o : Option α} {f : α → Option β} {c : β} (h : o.bind f = some c) : ∃ a, o = some a ∧ f a = some c := by
  cases o with
  | none => cases h
  | some a => exact ⟨a, rfl, h⟩
theorem mapS {α β : Type} {o : Option α} {f : α → β} {c : β} (h : o.map f = some c) : ∃ a, o = some a ∧ f a = c := by
  cases o with
  | none => cases h
  | some a => exact ⟨a, rfl, by simpa using h⟩
theorem Fin.from {w w' : Wd} {H H' : Hp} {c : Vl} {st : Store} {Q : VK} (f : Fin G w H c st Q) (m : Mono w w' H H') : Fin G w' H' c st Q := fun w2 H2 v m2 S r => f w2 H2 v (m.trans m2) S r
theorem tOp_of {r : R2} {g : Store → Vl → Vl → Option Vl} (hr : ∀ x y H Q, rV2 G g x y H Q → r x y H Q) {σ : L2.St} {H : Hp} {Q : VK} (h : tE G (mOp g ma mb) σ H Q) : tOp r (tE G ma) (tE G mb) σ H Q := by
  obtain ⟨w, rho, st, c, st', S, E, e, f⟩ := h
  obtain ⟨⟨x, s1⟩, e1, e⟩ := bindS e
  obtain ⟨⟨y, s2⟩, e2, e⟩ := bindS e
  obtain ⟨z, e3, e⟩ := mapS e
  cases e
  refine ⟨w, rho, st, x, s1, S, E, e1, fun w1 H1 v1 m1 S1 r1 => ⟨w1, rho, s1, y, _, S1, m1.env E, e2, fun w2 H2 v2 m2 S2 r2 => hr _ _ _ _ ?_⟩⟩
  exact ⟨w2, _, x, y, _, S2, m2.repV r1, r2, e3, f.from (m1.trans m2)⟩
theorem se_op {op : Operator} {g : Store → Vl → Vl → Option Vl} (ho : OpR X (binaryOp op) (rV2 G g)) (ha : SE X G a ma) (hb : SE X G b mb) : SE X G (.BinOp a op b pos) (mOp g ma mb) :=
  ⟨(pe_op ho ha.pe hb.pe).imp fun _ _ _ h => tOp_of (fun _ _ _ _ q => q) h⟩
theorem se_cmp {op : CmpOp} {g : Store → Vl → Vl → Option Vl} (ho : OpR X (compareOp op) (rV2 G g)) (ha : SE X G a ma) (hb : SE X G b mb) (hm : behindInMarks op b = false := by first | exact nomark _ | rfl) : SE X G (.Compare a [op] [b] pos) (mOp g ma mb) :=
  ⟨(pe_cmpR ho ha.pe hb.pe hm).imp fun _ _ _ h => tOp_of (fun _ _ _ _ q => q) h⟩
theorem se_un {op : UnaryOp} {g : Store → Vl → Option Vl} (ho : UnR X (unaryOp op) (rV1 G g)) (ha : SE X G a ma) : SE X G (.UnaryOp op a pos) (mUn g ma) := by
  refine ⟨(pe_un ho ha.pe).imp fun σ H Q h => ?_⟩
  obtain ⟨w, rho, st, c, st', S, E, e, f⟩ := h
  obtain ⟨⟨x, s1⟩, e1, e⟩ := bindS e
  obtain ⟨z, e3, e⟩ := mapS e
  cases e
  exact ⟨w, rho, st, x, _, S, E, e1, fun w1 H1 v1 m1 S1 r1 => ⟨w1, _, x, _, S1, r1, e3, f.from m1⟩⟩

/-! ### tests -/
def mB (m : EM) : TM := fun rho st => (m rho st).bind fun p => match p.1 with
  | .d (.bl c) => some (c, p.2)
  | _ => none
theorem tTest_of {σ : L2.St} {H : Hp} {Q : Bool → Hp → Prop} (h : tT G (mB m) σ H Q) : tE G m σ H fun x H' => ∃ k, x = .bl k ∧ Q k H' := by
  obtain ⟨w, rho, st, c, st', S, E, e, f⟩ := h
  obtain ⟨⟨x, s1⟩, e1, e⟩ := bindS e
  simp only at e
  split at e
  · cases e
    refine ⟨w, rho, st, _, _, S, E, e1, fun w1 H1 v1 m1 S1 r1 => ?_⟩
    cases r1
    exact ⟨_, rfl, f w1 H1 m1 S1⟩
  · cases e
theorem sc_cmp {op : CmpOp} {g : Store → Vl → Vl → Option Vl} (ho : OpR X (compareOp op) (rV2 G g)) (ha : SE X G a ma) (hb : SE X G b mb) (hm : behindInMarks op b = false := by first | exact nomark _ | rfl) : SC X G (.Compare a [op] [b] pos) (mB (mOp g ma mb)) := by
  refine ⟨(pt_cmpR ho ha.pe hb.pe hm).imp fun σ H Q h => ?_⟩
  exact tOp_of (G := G) (g := g) (fun _ _ _ _ q => q) (tTest_of h)
/-- truth of any value -/
def truV (st : Store) : Vl → Option Bool
  | .d .non => some false
  | .d (.bl b) => some b
  | .d (.int i) => some (i != 0)
  | .d (.tup ds) => some (!ds.isEmpty)
  | .d (.lst ds) => some (!ds.isEmpty)
  | x => (lstOf st x).map fun ds => !ds.isEmpty
def mT (m : EM) : TM := fun rho st => (m rho st).bind fun p => (truV p.2 p.1).map fun c => (c, p.2)
theorem isEmpty_rep {mu : List Addr} {H : Hp} {ds : List D} {vs : List V} (r : RepL G mu H ds vs) : (!ds.isEmpty) = !vs.isEmpty := by
  cases r <;> rfl
theorem truV_ok {w : Wd} {H : Hp} {st : Store} {x : Vl} {v : V} {c : Bool} (S : StOk G w H st) (r : RepV G w H x v) (h : truV st x = some c) (K : PySem.W.Frag) : TruV K v H c := by
  have other : (lstOf st x).map (fun ds => !ds.isEmpty) = some c → TruV K v H c := fun h => by
    obtain ⟨ds, h1, h2⟩ := mapS h
    obtain ⟨p, vs, rfl, e1, r1⟩ := lstOf_ok S r h1
    exact .inl ⟨vs, SqL.of e1, by rw [← h2, isEmpty_rep r1]⟩
  cases x with
  | d x =>
    cases x with
    | non => cases h; cases r; rfl
    | bl b => cases h; cases r; rfl
    | int i => cases h; cases r; rfl
    | tup ds =>
      cases h
      cases (show Rep G w.mu H (.tup ds) v from r) with
      | tup k1 k2 k3 k4 => exact .inr (.inl ⟨_, .inl (.inr ⟨_, k1⟩), isEmpty_rep k4⟩)
    | lst ds =>
      cases h
      cases (show Rep G w.mu H (.lst ds) v from r) with
      | lst k1 k3 k4 => exact .inl ⟨_, SqL.of k1, isEmpty_rep k4⟩
    | _ => exact other h
  | r n => exact other h
  | rr n i => exact other h
theorem sc_tru (ha : SE X G a ma) (he : ∀ whole, isTrue a X.env whole = (do let v ← whole; standAt a.pos; holding [v] (truthy v)) := by intro _; rfl) : SC X G a (mT ma) := by
  refine ⟨(pt_truth ha.pe he).imp fun σ H Q h => ?_⟩
  obtain ⟨w, rho, st, c, st', S, E, e, f⟩ := h
  obtain ⟨⟨x, s1⟩, e1, e⟩ := bindS e
  obtain ⟨z, e3, e⟩ := mapS e
  cases e
  exact ⟨w, rho, st, x, _, S, E, e1, fun w1 H1 v1 m1 S1 r1 => ⟨c, truV_ok S1 r1 e3 _, f w1 H1 m1 S1⟩⟩
def mAndT (ta tb : TM) : TM := fun rho st => (ta rho st).bind fun p => if p.1 then tb rho p.2 else some (false, p.2)
def mOrT (ta tb : TM) : TM := fun rho st => (ta rho st).bind fun p => if p.1 then some (true, p.2) else tb rho p.2
def mNotT (ta : TM) : TM := fun rho st => (ta rho st).bind fun p => some (!p.1, p.2)
variable {tma tmb : TM} {rest : List Expr}
theorem SW.c (h : SW X G e tma) : SC X G e tma := ⟨h.pw.pt⟩
theorem sw_and1 (ha : SC X G a tma) : SW X G (.BoolOp .And [a] pos) tma := ⟨pw_and1 ha.pt⟩
theorem sw_or1 (ha : SC X G a tma) : SW X G (.BoolOp .Or [a] pos) tma := ⟨pw_or1 ha.pt⟩
theorem sw_and (ha : SC X G a tma) (hb : SW X G (.BoolOp .And (b :: rest) pos) tmb) : SW X G (.BoolOp .And (a :: b :: rest) pos) (mAndT tma tmb) := by
  refine ⟨(pw_and ha.pt hb.pw).imp fun σ H Q h => ?_⟩
  obtain ⟨w, rho, st, c, st', S, E, e, f⟩ := h
  obtain ⟨⟨x, s1⟩, e1, e⟩ := bindS e
  refine ⟨w, rho, st, x, s1, S, E, e1, fun w1 H1 m1 S1 => ?_⟩
  cases x with
  | true =>
    rw [if_pos rfl] at e ⊢
    exact ⟨w1, rho, s1, c, st', S1, m1.env E, e, fun w2 H2 m2 S2 => f w2 H2 (m1.trans m2) S2⟩
  | false =>
    rw [if_neg Bool.false_ne_true] at e ⊢
    cases e
    exact f w1 H1 m1 S1
theorem sw_or (ha : SC X G a tma) (hb : SW X G (.BoolOp .Or (b :: rest) pos) tmb) : SW X G (.BoolOp .Or (a :: b :: rest) pos) (mOrT tma tmb) := by
  refine ⟨(pw_or ha.pt hb.pw).imp fun σ H Q h => ?_⟩
  obtain ⟨w, rho, st, c, st', S, E, e, f⟩ := h
  obtain ⟨⟨x, s1⟩, e1, e⟩ := bindS e
  refine ⟨w, rho, st, x, s1, S, E, e1, fun w1 H1 m1 S1 => ?_⟩
  cases x with
  | true =>
    rw [if_pos rfl] at e ⊢
    cases e
    exact f w1 H1 m1 S1
  | false =>
    rw [if_neg Bool.false_ne_true] at e ⊢
    exact ⟨w1, rho, s1, c, st', S1, m1.env E, e, fun w2 H2 m2 S2 => f w2 H2 (m1.trans m2) S2⟩
theorem sc_not (ha : SC X G a tma) : SC X G (.UnaryOp .Not a pos) (mNotT tma) := by
  refine ⟨(pt_not ha.pt).imp fun σ H Q h => ?_⟩
  obtain ⟨w, rho, st, c, st', S, E, e, f⟩ := h
  obtain ⟨⟨x, s1⟩, e1, e⟩ := bindS e
  cases e
  exact ⟨w, rho, st, x, _, S, E, e1, fun w1 H1 m1 S1 => f w1 H1 m1 S1⟩
/-! .. as values -/
def mAndV (ma mb : EM) : EM := fun rho st => (ma rho st).bind fun p => match p.1 with
  | .d (.bl true) => mb rho p.2
  | .d (.bl false) => some (.d (.bl false), p.2)
  | _ => none
def mOrV (ma mb : EM) : EM := fun rho st => (ma rho st).bind fun p => match p.1 with
  | .d (.bl true) => some (.d (.bl true), p.2)
  | .d (.bl false) => mb rho p.2
  | _ => none
def notV (st : Store) : Vl → Option Vl
  | .d (.bl b) => some (.d (.bl (!b)))
  | _ => none
theorem se_one {op : BoolOp} (h : SE X G a ma) : SE X G (.BoolOp op [a] pos) ma := ⟨pe_one h.pe⟩
theorem se_and (ha : SE X G a ma) (hb : SE X G (.BoolOp .And (b :: rest) pos) mb) : SE X G (.BoolOp .And (a :: b :: rest) pos) (mAndV ma mb) := by
  refine ⟨(pe_and ha.pe hb.pe).imp fun σ H Q h => ?_⟩
  obtain ⟨w, rho, st, c, st', S, E, e, f⟩ := h
  obtain ⟨⟨x, s1⟩, e1, e⟩ := bindS e
  refine ⟨w, rho, st, x, s1, S, E, e1, fun w1 H1 v1 m1 S1 r1 => ?_⟩
  simp only at e
  split at e
  · cases r1
    exact ⟨true, rfl, by rw [if_pos rfl]; exact ⟨w1, rho, s1, c, st', S1, m1.env E, e, f.from m1⟩⟩
  · cases r1
    cases e
    exact ⟨false, rfl, by rw [if_neg Bool.false_ne_true]; exact (f.from m1).now S1 (.bl _)⟩
  · cases e
theorem se_or (ha : SE X G a ma) (hb : SE X G (.BoolOp .Or (b :: rest) pos) mb) : SE X G (.BoolOp .Or (a :: b :: rest) pos) (mOrV ma mb) := by
  refine ⟨(pe_or ha.pe hb.pe).imp fun σ H Q h => ?_⟩
  obtain ⟨w, rho, st, c, st', S, E, e, f⟩ := h
  obtain ⟨⟨x, s1⟩, e1, e⟩ := bindS e
  refine ⟨w, rho, st, x, s1, S, E, e1, fun w1 H1 v1 m1 S1 r1 => ?_⟩
  simp only at e
  split at e
  · cases r1
    cases e
    exact ⟨true, rfl, by rw [if_pos rfl]; exact (f.from m1).now S1 (.bl _)⟩
  · cases r1
    exact ⟨false, rfl, by rw [if_neg Bool.false_ne_true]; exact ⟨w1, rho, s1, c, st', S1, m1.env E, e, f.from m1⟩⟩
  · cases e
theorem se_not (ha : SE X G a ma) : SE X G (.UnaryOp .Not a pos) (mUn notV ma) := by
  refine ⟨(pe_not ha.pe).imp fun σ H Q h => ?_⟩
  obtain ⟨w, rho, st, c, st', S, E, e, f⟩ := h
  obtain ⟨⟨x, s1⟩, e1, e⟩ := bindS e
  obtain ⟨z, e3, e⟩ := mapS e
  cases e
  refine ⟨w, rho, st, x, _, S, E, e1, fun w1 H1 v1 m1 S1 r1 => ?_⟩
  cases x with
  | d x =>
    cases x with
    | bl b =>
      cases e3
      cases r1
      exact ⟨_, rfl, (f.from m1).now S1 (.bl _)⟩
    | _ => cases e3
  | r n => cases e3
  | rr n i => cases e3
def mIfE (t : TM) (ma mb : EM) : EM := fun rho st => (t rho st).bind fun p => if p.1 then ma rho p.2 else mb rho p.2
theorem se_if {c : Expr} (hc : SC X G c tma) (ha : SE X G a ma) (hb : SE X G b mb) : SE X G (.IfExp c a b pos) (mIfE tma ma mb) := by
  refine ⟨(pe_ifExp hc.pt ha.pe hb.pe).imp fun σ H Q h => ?_⟩
  obtain ⟨w, rho, st, c, st', S, E, e, f⟩ := h
  obtain ⟨⟨x, s1⟩, e1, e⟩ := bindS e
  refine ⟨w, rho, st, x, s1, S, E, e1, fun w1 H1 m1 S1 => ?_⟩
  cases x with
  | true =>
    rw [if_pos rfl] at e ⊢
    exact ⟨w1, rho, s1, c, st', S1, m1.env E, e, f.from m1⟩
  | false =>
    rw [if_neg Bool.false_ne_true] at e ⊢
    exact ⟨w1, rho, s1, c, st', S1, m1.env E, e, f.from m1⟩
/-- a <= b <= c -/
def mChain (g g' : Store → Vl → Vl → Option Vl) (ma mb mc : EM) : EM := fun rho st => (ma rho st).bind fun p => (mb rho p.2).bind fun q => (g q.2 p.1 q.1).bind fun c => match c with
  | .d (.bl true) => (mc rho q.2).bind fun r => (g' r.2 q.1 r.1).map fun c => (c, r.2)
  | .d (.bl false) => some (.d (.bl false), q.2)
  | _ => none
theorem tChain_of {r r' : R2} {g g' : Store → Vl → Vl → Option Vl} {mc : EM} (hr : ∀ x y H Q, rV2 G g x y H Q → r x y H Q) (hr' : ∀ x y H Q, rV2 G g' x y H Q → r' x y H Q) {σ : L2.St} {H : Hp} {Q : VK} (h : tE G (mChain g g' ma mb mc) σ H Q) :
    tChain r r' (tE G ma) (tE G mb) (tE G mc) σ H Q := by
  obtain ⟨w, rho, st, c, st', S, E, e, f⟩ := h
  obtain ⟨⟨x, s1⟩, e1, e⟩ := bindS e
  obtain ⟨⟨y, s2⟩, e2, e⟩ := bindS e
  obtain ⟨z, e3, e⟩ := bindS e
  refine ⟨w, rho, st, x, s1, S, E, e1, fun w1 H1 v1 m1 S1 r1 => ⟨w1, rho, s1, y, s2, S1, m1.env E, e2, fun w2 H2 v2 m2 S2 r2 => hr _ _ _ _ ⟨w2, s2, x, y, z, S2, m2.repV r1, r2, e3, fun w3 H3 v3 m3 S3 r3 => ?_⟩⟩⟩
  simp only at e
  split at e
  · cases r3
    obtain ⟨⟨q, s4⟩, e4, e⟩ := bindS e
    obtain ⟨d, e5, e⟩ := mapS e
    cases e
    refine ⟨true, rfl, ?_⟩
    rw [if_pos rfl]
    refine ⟨w3, rho, s2, q, _, S3, m3.env (m2.env (m1.env E)), e4, fun w4 H4 v4 m4 S4 r4 => hr' _ _ _ _ ?_⟩
    exact ⟨w4, _, y, q, _, S4, m4.repV (m3.repV r2), r4, e5, (((f.from m1).from m2).from m3).from m4⟩
  · cases r3
    cases e
    refine ⟨false, rfl, ?_⟩
    rw [if_neg Bool.false_ne_true]
    exact (((f.from m1).from m2).from m3).now S3 (.bl _)
  · cases e
variable {c : Expr} {mc : EM}
theorem se_chain {op op' : CmpOp} {g g' : Store → Vl → Vl → Option Vl} (ho : OpR X (compareOp op) (rV2 G g)) (ho' : OpR X (compareOp op') (rV2 G g')) (ha : SE X G a ma) (hb : SE X G b mb) (hc : SE X G c mc)
    (hm : lastMarks [op, op'] [b, c] = false := by with_unfolding_all rfl) : SE X G (.Compare a [op, op'] [b, c] pos) (mChain g g' ma mb mc) :=
  ⟨(pe_chain ho ho' ha.pe hb.pe hc.pe hm).imp fun _ _ _ h => tChain_of (fun _ _ _ _ q => q) (fun _ _ _ _ q => q) h⟩
theorem sc_chain {op op' : CmpOp} {g g' : Store → Vl → Vl → Option Vl} (ho : OpR X (compareOp op) (rV2 G g)) (ho' : OpR X (compareOp op') (rV2 G g')) (ha : SE X G a ma) (hb : SE X G b mb) (hc : SE X G c mc)
    (hm : lastMarks [op, op'] [b, c] = false := by with_unfolding_all rfl) : SC X G (.Compare a [op, op'] [b, c] pos) (mB (mChain g g' ma mb mc)) :=
  ⟨(pt_chain ho ho' ha.pe hb.pe hc.pe hm).imp fun _ _ _ h => tChain_of (fun _ _ _ _ q => q) (fun _ _ _ _ q => q) (tTest_of h)⟩

/-! ### argument lists, displays -/
def mNil : AM := fun _ st => some ([], st)
def mCons (ma : EM) (mr : AM) : AM := fun rho st => (ma rho st).bind fun p => (mr rho p.2).map fun q => (p.1 :: q.1, q.2)
variable {mr : AM}
theorem sa_nil : SA X G [] mNil := by
  refine ⟨pa_nil.imp fun σ H Q h => ?_⟩
  obtain ⟨w, rho, st, cs, st', S, E, e, f⟩ := h
  cases e
  exact f w H [] (Mono.refl w H) S .nil
theorem sa_cons (ha : SE X G e ma) (hr : SA X G es mr) (hs : starEach (e :: es) X.env = (false, eval e X.env) :: starEach es X.env := by rfl) : SA X G (e :: es) (mCons ma mr) := by
  refine ⟨(pa_cons ha.pe hr.pa hs).imp fun σ H Q h => ?_⟩
  obtain ⟨w, rho, st, cs, st', S, E, e, f⟩ := h
  obtain ⟨⟨x, s1⟩, e1, e⟩ := bindS e
  obtain ⟨⟨xs, s2⟩, e2, e⟩ := mapS e
  cases e
  exact ⟨w, rho, st, x, s1, S, E, e1, fun w1 H1 v1 m1 S1 r1 => ⟨w1, rho, s1, xs, _, S1, m1.env E, e2, fun w2 H2 vs m2 S2 r2 => f w2 H2 _ (m1.trans m2) S2 (.cons (m2.repV r1) r2)⟩⟩
/-- all data -/
def unD : List Vl → Option (List D)
  | [] => some []
  | .d x :: xs => (unD xs).map (x :: ·)
  | _ :: _ => none
theorem unD_ok {w : Wd} {H : Hp} : ∀ {xs : List Vl} {ds : List D} {vs : List V}, unD xs = some ds → RepVs G w H xs vs → RepL G w.mu H ds vs
  | [], _, _, h, r => by cases h; cases r; exact .nil
  | .d x :: xs, _, _, h, r => by
    obtain ⟨ds, h1, h2⟩ := mapS h
    subst h2
    cases r with
    | cons r1 r2 => exact .cons r1 (unD_ok h1 r2)
  | .r _ :: _, _, _, h, _ => by cases h
  | .rr _ _ :: _, _, _, h, _ => by cases h
def mTup (ma : AM) : EM := fun rho st => (ma rho st).bind fun p => (unD p.1).bind fun ds => if ds.length ≤ lim then some (.d (.tup ds), p.2) else none
def mLst (ma : AM) : EM := fun rho st => (ma rho st).bind fun p => (unD p.1).bind fun ds => if ds.length ≤ lim then some (.d (.lst ds), p.2) else none
def mLstN (ma : AM) : EM := fun rho st => (ma rho st).bind fun p => (unD p.1).bind fun ds => if ds.length ≤ lim then some (.r p.2.length, p.2 ++ [.lst ds]) else none
variable {mas : AM}
theorem pe_tupF {x1} {t : TA} (h : PA X es t) : PE X (.Tuple es x1 pos) (fun σ H Q => t σ H fun xs H1 => xs.length ≤ sizeLine ∧ ∀ p o, H1 p = none → o.dict = none → Q (.ref p) (upd H1 p (.frz o (.tup xs)))) := by
  refine ⟨fun pins s σ H Q I hq => ?_⟩
  refine wpAny_Tuple_spliced (thn (h.run pos pins s σ H _ I hq) fun us s1 ⟨xs, H1, I1, r, z, q⟩ => ⟨by rw [← r.length]; exact z, ?_⟩)
  exact tupLaid I1 r z q
theorem se_tup {x1} (h : SA X G es mas) : SE X G (.Tuple es x1 pos) (mTup mas) := by
  refine ⟨(pe_tupF h.pa).imp fun σ H Q h => ?_⟩
  obtain ⟨w, rho, st, c, st', S, E, e, f⟩ := h
  obtain ⟨⟨xs, s1⟩, e1, e⟩ := bindS e
  obtain ⟨ds, e2, e⟩ := bindS e
  split at e
  · rename_i hz
    cases e
    refine ⟨w, rho, st, xs, _, S, E, e1, fun w1 H1 vs m1 S1 r1 => ?_⟩
    have r := unD_ok e2 r1
    refine ⟨by rw [← r.length, lim_eq]; exact hz, fun p o hp ho => ?_⟩
    obtain ⟨m, S', r'⟩ := newTup S1 hp ho r
    exact f _ _ _ (m1.trans m) S' r'
  · cases e
theorem se_lst (h : SA X G es mas) : SE X G (.List es pos) (mLst mas) := by
  refine ⟨(pe_lst h.pa).imp fun σ H Q h => ?_⟩
  obtain ⟨w, rho, st, c, st', S, E, e, f⟩ := h
  obtain ⟨⟨xs, s1⟩, e1, e⟩ := bindS e
  obtain ⟨ds, e2, e⟩ := bindS e
  split at e
  · rename_i hz
    cases e
    refine ⟨w, rho, st, xs, _, S, E, e1, fun w1 H1 vs m1 S1 r1 => ?_⟩
    have r := unD_ok e2 r1
    refine ⟨by rw [← r.length, lim_eq]; exact hz, fun p hp => ?_⟩
    obtain ⟨m, S', r'⟩ := newLst S1 hp r
    exact f _ _ _ (m1.trans m) S' r'
  · cases e
/-- a new list that may change -/
theorem newLstN {w : Wd} {H : Hp} {st : Store} (S : StOk G w H st) {p : Addr} (hp : H p = none) {ds : List D} {vs : List V} (r : RepL G w.mu H ds vs) :
    Mono w ⟨w.nu, w.io ++ [[p]]⟩ H (upd H p (.lst vs)) ∧ StOk G ⟨w.nu, w.io ++ [[p]]⟩ (upd H p (.lst vs)) (st ++ [.lst ds]) ∧ RepV G ⟨w.nu, w.io ++ [[p]]⟩ (upd H p (.lst vs)) (.r st.length) (.ref p) := by
  obtain ⟨m, S'⟩ := Mono.alloc (o := .lst vs) S hp (c := .lst ds) fun mu' _ k => ⟨p, vs, rfl, upd_same, k.repL r⟩
  refine ⟨m, S', [p], ?_, fun a q z => by cases z; rfl⟩
  show (w.io ++ [[p]])[st.length]? = _
  rw [S.len, List.getElem?_append_right (Nat.le_refl _)]
  simp
theorem se_lstN (h : SA X G es mas) : SE X G (.List es pos) (mLstN mas) := by
  refine ⟨(pe_lst h.pa).imp fun σ H Q h => ?_⟩
  obtain ⟨w, rho, st, c, st', S, E, e, f⟩ := h
  obtain ⟨⟨xs, s1⟩, e1, e⟩ := bindS e
  obtain ⟨ds, e2, e⟩ := bindS e
  split at e
  · rename_i hz
    cases e
    refine ⟨w, rho, st, xs, s1, S, E, e1, fun w1 H1 vs m1 S1 r1 => ?_⟩
    have r := unD_ok e2 r1
    refine ⟨by rw [← r.length, lim_eq]; exact hz, fun p hp => ?_⟩
    obtain ⟨m, S', r'⟩ := newLstN S1 hp r
    exact f _ _ _ (m1.trans m) S' r'
  · cases e
end
end Mini

set_option Elab.async false
set_option linter.all false
set_option maxRecDepth 100000
namespace Mini
open PySem PySem.Spec PyProof.Rows L2

section
variable {X : Cx} {G : Sit} {e a b : Expr} {es : List Expr} {m ma mb : EM} {mas : AM} {pos : Pos}

/-! ### dicts -/
def lookD (ks : List Key) (ds : List D) (k : Key) : Option D := ((ks.zip ds).find? fun kv => decide (kv.1 = k)).map (·.2)
def putD (ks : List Key) (ds : List D) (k : Key) (d : D) : List Key × List D :=
  if (ks.any fun x => decide (x = k)) = true then (ks, (ks.zip ds).map fun q => if q.1 = k then d else q.2) else (ks ++ [k], ds ++ [d])
def keyOf : Vl → Option Key
  | .d (.int i) => some (.inl i)
  | .d (.str x) => some (.inr x)
  | _ => none
theorem keyOf_ok {w : Wd} {H : Hp} {x : Vl} {v : V} {k : Key} (r : RepV G w H x v) (h : keyOf x = some k) : v = kV k := by
  cases x with
  | d x =>
    cases x with
    | int i => cases h; cases r; rfl
    | str i => cases h; cases r; rfl
    | _ => cases h
  | r n => cases h
  | rr n i => cases h
theorem look_rep {mu : List Addr} {H : Hp} {k : Key} : ∀ {ks : List Key} {ds : List D} {vs : List V}, ks.length = vs.length → RepL G mu H ds vs →
    (lookD ks ds k = none → valV (ks.zip vs) k = none) ∧ ∀ d, lookD ks ds k = some d → ∃ v, valV (ks.zip vs) k = some v ∧ Rep G mu H d v
  | [], _, _, _, _ => ⟨fun _ => rfl, fun d h => by simp [lookD] at h⟩
  | c :: ks, _, _, l, .nil => by simp at l
  | c :: ks, d0 :: ds, v0 :: vs, l, .cons r1 r2 => by
    have ih := look_rep (ks := ks) (k := k) (by simpa using l) r2
    by_cases e : c = k
    · subst e
      refine ⟨fun h => ?_, fun d h => ⟨v0, valV_pos rfl, ?_⟩⟩
      · simp [lookD] at h
      · have : d0 = d := by simpa [lookD] using h
        rw [← this]
        exact r1
    · have e1 : lookD (c :: ks) (d0 :: ds) k = lookD ks ds k := by simp [lookD, e]
      have e2 : valV ((c :: ks).zip (v0 :: vs)) k = valV (ks.zip vs) k := valV_neg e
      rw [e1, e2]
      exact ih
theorem put_map {mu : List Addr} {H : Hp} {v : V} {d : D} {k : Key} (rv : Rep G mu H d v) : ∀ {ks : List Key} {ds : List D} {vs : List V}, ks.length = vs.length → RepL G mu H ds vs →
    ∃ vs', (ks.zip vs).map (fun kv => if kv.1 = k then (kv.1, v) else kv) = ks.zip vs' ∧ ks.length = vs'.length ∧ RepL G mu H ((ks.zip ds).map fun q => if q.1 = k then d else q.2) vs'
  | [], _, _, _, _ => ⟨[], rfl, rfl, .nil⟩
  | c :: ks, _, _, l, .nil => by simp at l
  | c :: ks, d0 :: ds, v0 :: vs, l, .cons r1 r2 => by
    obtain ⟨vs', h1, h2, h3⟩ := put_map (k := k) rv (ks := ks) (by simpa using l) r2
    by_cases e : c = k
    · refine ⟨v :: vs', ?_, by simp [h2], ?_⟩
      · rw [List.zip_cons_cons, List.zip_cons_cons, List.map_cons, h1, if_pos e]
      · rw [List.zip_cons_cons, List.map_cons, if_pos e]; exact .cons rv h3
    · refine ⟨v0 :: vs', ?_, by simp [h2], ?_⟩
      · rw [List.zip_cons_cons, List.zip_cons_cons, List.map_cons, h1, if_neg e]
      · rw [List.zip_cons_cons, List.map_cons, if_neg e]; exact .cons r1 h3
theorem any_zip {k : Key} : ∀ {ks : List Key} {vs : List V}, ks.length = vs.length → ((ks.zip vs).any fun kv => decide (kv.1 = k)) = ks.any fun x => decide (x = k)
  | [], _, _ => rfl
  | c :: ks, [], l => by simp at l
  | c :: ks, v0 :: vs, l => by
    rw [List.zip_cons_cons, List.any_cons, List.any_cons, any_zip (by simpa using l)]
theorem zip_snoc {α β : Type} {a : α} {b : β} : ∀ {ks : List α} {vs : List β}, ks.length = vs.length → ks.zip vs ++ [(a, b)] = (ks ++ [a]).zip (vs ++ [b])
  | [], [], _ => rfl
  | [], _ :: _, l => by simp at l
  | _ :: _, [], l => by simp at l
  | c :: ks, v :: vs, l => by
    show (c, v) :: (ks.zip vs ++ [(a, b)]) = (c, v) :: (ks ++ [a]).zip (vs ++ [b])
    rw [zip_snoc (by simpa using l)]
theorem put_rep {mu : List Addr} {H : Hp} {k : Key} {ks : List Key} {ds : List D} {vs : List V} {d : D} {v : V} (l : ks.length = vs.length) (r : RepL G mu H ds vs) (rv : Rep G mu H d v) :
    ∃ vs', putK (ks.zip vs) k v = (putD ks ds k d).1.zip vs' ∧ (putD ks ds k d).1.length = vs'.length ∧ RepL G mu H (putD ks ds k d).2 vs' := by
  unfold putK putD
  rw [any_zip l]
  by_cases e : (ks.any fun x => decide (x = k)) = true
  · rw [if_pos e, if_pos e]
    exact put_map rv l r
  · rw [if_neg e, if_neg e]
    exact ⟨vs ++ [v], zip_snoc l, by simp [l], r.append (.cons rv .nil)⟩

/-! ### o[i] -/
theorem atI_rep {mu : List Addr} {H : Hp} {ds : List D} {vs : List V} {i : Int} {d : D} (r : RepL G mu H ds vs) (h : atI ds i = some d) : ∃ v, atI vs i = some v ∧ Rep G mu H d v := by
  unfold atI at h ⊢
  rw [← r.length]
  obtain ⟨j, e1, e2⟩ := bindS h
  obtain ⟨v, e3, r3⟩ := r.get e2
  exact ⟨v, by rw [e1]; exact e3, r3⟩
def ixV (st : Store) (a b : Vl) : Option Vl :=
  match a, b with
  | .d (.dic ks ds), k => (keyOf k).bind fun k => (lookD ks ds k).map Vl.d
  | .r n, k => match st[n]? with
    | some (.dic ks ds) => (keyOf k).bind fun k => (lookD ks ds k).map Vl.d
    | some (.grid rs) => match k with
      | .d (.int i) => (ixN rs.length i).map fun j => .rr n j
      | _ => none
    | some (.lst ds) => match k with
      | .d (.int i) => (atI ds i).map Vl.d
      | _ => none
    | _ => none
  | x, .d (.int i) => (seqOf st x).bind fun ds => (atI ds i).map Vl.d
  | _, _ => none
theorem ixN_lt {n : Nat} {i : Int} {j : Nat} (h : ixN n i = some j) : j < n := (ixN_seq h).2.1
def isDic (st : Store) : Vl → Bool
  | .d (.dic _ _) => true
  | .r n => match st[n]? with
    | some (.dic _ _) => true
    | _ => false
  | _ => false
theorem ixV_ok {K : PySem.W.Frag} {w : Wd} {H : Hp} {st : Store} {x y c : Vl} {v1 v2 : V} {Q : VK} (S2 : StOk G w H st) (r1 : RepV G w H x v1) (r2 : RepV G w H y v2) (e3 : ixV st x y = some c) (f : Fin G w H c st Q) :
    (isDic st x = false ∧ (rIxL K v1 v2 H Q ∨ rIxT K v1 v2 H Q)) ∨ isDic st x = true ∧ ∃ a v, v1 = .ref a ∧ DGet H a v2 (some v) ∧ Q v H := by
  have sq : ∀ ds i, isDic st x = false → seqOf st x = some ds → y = .d (.int i) → ∀ d, atI ds i = some d → c = .d d → rIxL K v1 v2 H Q ∨ rIxT K v1 v2 H Q := fun ds i _ h1 hy d h3 h4 => by
    subst h4 hy
    obtain ⟨p, vs, rfl, q1, q2⟩ := seqOf_ok (K := K) S2 r1 h1
    cases r2
    obtain ⟨v, g1, g2⟩ := atI_rep q2 h3
    rcases q1 with q1 | q1
    · exact .inl ⟨p, vs, _, v, rfl, rfl, q1, g1, f.now S2 g2⟩
    · exact .inr ⟨p, vs, _, v, rfl, rfl, q1, g1, f.now S2 g2⟩
  cases x with
  | d x =>
    cases x with
    | dic ks ds =>
      obtain ⟨k, h1, h2⟩ := bindS e3
      obtain ⟨d, h3, h4⟩ := mapS h2
      subst h4
      cases r1 with
      | dic k1 k2 k3 k4 =>
        obtain ⟨v, g1, g2⟩ := (look_rep k3 k4).2 d h3
        exact .inr ⟨rfl, _, v, rfl, by rw [keyOf_ok r2 h1, ← g1]; exact DGet.k k1, f.now S2 g2⟩
    | _ =>
      unfold ixV at e3
      split at e3
      · rename_i hx
        cases hx
      · rename_i hx
        cases hx
      · obtain ⟨ds, h1, h2⟩ := bindS e3
        obtain ⟨d, h3, h4⟩ := mapS h2
        exact .inl ⟨rfl, sq ds _ rfl h1 rfl d h3 h4.symm⟩
      · cases e3
  | r n =>
    obtain ⟨p, p1, p2⟩ := r1
    simp only [ixV] at e3
    split at e3
    · rename_i ks ds hc
      obtain ⟨k, h1, h2⟩ := bindS e3
      obtain ⟨d, h3, h4⟩ := mapS h2
      subst h4
      obtain ⟨q, vs, rfl, q1, q2, q3⟩ := S2.cell n _ p hc p1
      obtain ⟨v, g1, g2⟩ := (look_rep q2 q3).2 d h3
      exact .inr ⟨by simp [isDic, hc], q, v, p2 q [] rfl, by rw [keyOf_ok r2 h1, ← g1]; exact DGet.k q1, f.now S2 g2⟩
    · rename_i rs hc
      split at e3
      · obtain ⟨j, h1, h2⟩ := mapS e3
        subst h2
        obtain ⟨q, bs, rfl, q1, q2, q3⟩ := S2.cell n _ p hc p1
        have hj : j < bs.length := by rw [q2]; exact ixN_lt h1
        cases r2
        refine .inl ⟨by simp [isDic, hc], .inl ⟨q, bs.map V.ref, _, .ref bs[j], p2 q bs rfl, rfl, SqL.of q1, ?_, f.now S2 ⟨q :: bs, p1, fun a q' b z1 z2 => ?_⟩⟩⟩
        · unfold atI
          rw [List.length_map, q2, h1]
          show (bs.map V.ref)[j]? = _
          rw [List.getElem?_map, List.getElem?_eq_getElem hj]
          rfl
        · cases z1
          rw [List.getElem?_eq_getElem hj] at z2
          cases z2
          rfl
      · cases e3
    · rename_i ds hc
      split at e3
      · obtain ⟨d, h1, h2⟩ := mapS e3
        subst h2
        obtain ⟨q, vs, rfl, q1, q3⟩ := S2.cell n _ p hc p1
        cases r2
        obtain ⟨v, g1, g2⟩ := atI_rep q3 h1
        exact .inl ⟨by simp [isDic, hc], .inl ⟨q, vs, _, v, p2 q [] rfl, rfl, SqL.of q1, g1, f.now S2 g2⟩⟩
      · cases e3
    · cases e3
  | rr n i =>
    unfold ixV at e3
    split at e3
    · rename_i hx
      cases hx
    · rename_i hx
      cases hx
    · obtain ⟨ds, h1, h2⟩ := bindS e3
      obtain ⟨d, h3, h4⟩ := mapS h2
      exact .inl ⟨rfl, sq ds _ rfl h1 rfl d h3 h4.symm⟩
    · cases e3
theorem se_ix (hu : X.A.units + 1 < cLine) (ha : SE X G a ma) (hb : SE X G b mb) (hs : PlainIx b := by exact fun _ _ => rfl) : SE X G (.Subscript a b pos) (mOp ixV ma mb) := by
  have hseq := pe_ix (X := X) (pos := pos) (ix_list.or ix_tup) ha.pe hb.pe hs
  have hdic := pe_dget (pos := pos) hu ha.pe hb.pe hs
  refine ⟨(hseq.or hdic).imp fun σ H Q h => ?_⟩
  obtain ⟨w, rho, st, c, st', S, E, e, f⟩ := h
  obtain ⟨⟨x, s1⟩, e1, e⟩ := bindS e
  obtain ⟨⟨y, s2⟩, e2, e⟩ := bindS e
  obtain ⟨z, e3, e⟩ := mapS e
  cases e
  cases hd : isDic s2 x with
  | false =>
    refine .inl ⟨w, rho, st, x, s1, S, E, e1, fun w1 H1 v1 m1 S1 r1 => ⟨w1, rho, s1, y, _, S1, m1.env E, e2, fun w2 H2 v2 m2 S2 r2 => ?_⟩⟩
    rcases ixV_ok (K := X.K) S2 (m2.repV r1) r2 e3 ((f.from m1).from m2) with ⟨_, h⟩ | ⟨h, _⟩
    · exact h
    · rw [hd] at h; cases h
  | true =>
    refine .inr ⟨w, rho, st, x, s1, S, E, e1, fun w1 H1 v1 m1 S1 r1 => ⟨w1, rho, s1, y, _, S1, m1.env E, e2, fun w2 H2 v2 m2 S2 r2 => ?_⟩⟩
    rcases ixV_ok (K := X.K) S2 (m2.repV r1) r2 e3 ((f.from m1).from m2) with ⟨h, _⟩ | ⟨_, h⟩
    · rw [hd] at h; cases h
    · exact h

/-! ### o[lo:hi] -/
def cutD {α : Type} (xs : List α) (lo hi : Option Int) : List α := (xs.drop (HT.sIx xs.length 0 lo)).take (HT.sIx xs.length xs.length hi - HT.sIx xs.length 0 lo)
theorem cut_rep {mu : List Addr} {H : Hp} {ds : List D} {vs : List V} {lo hi : Option Int} (r : RepL G mu H ds vs) : RepL G mu H (cutD ds lo hi) (cutV vs lo hi) := by
  unfold cutD cutV
  rw [← r.length]
  exact (r.drop _).take _
theorem cutD_map {α β : Type} (f : α → β) (xs : List α) (lo hi : Option Int) : cutD (xs.map f) lo hi = (cutD xs lo hi).map f := by
  unfold cutD
  rw [List.length_map, ← List.map_drop, ← List.map_take]
/-- a bound, or none -/
abbrev OM := Rho → Store → Option (Option Int × Store)
def tO (G : Sit) (m : OM) : TO := fun σ H Q => ∃ w rho st c st', StOk G w H st ∧ EnvOk G w H σ rho ∧ m rho st = some (c, st') ∧ ∀ w' H', Mono w w' H H' → StOk G w' H' st' → Q c H'
structure SO (X : Cx) (G : Sit) (e : Option Expr) (m : OM) : Prop where
  po : PO X e (tO G m)
theorem _root_.L2.PO.imp {e : Option Expr} {t t' : TO} (h : PO X e t) (hi : ∀ σ H Q, t' σ H Q → t σ H Q) : PO X e t' := ⟨fun pins s σ H Q I q => h.run pins s σ H Q I (hi σ H Q q)⟩
def mNoP : OM := fun _ st => some (none, st)
def mPart (m : EM) : OM := fun rho st => (m rho st).bind fun p => match p.1 with
  | .d (.int i) => some (some i, p.2)
  | _ => none
theorem so_none : SO X G none mNoP := by
  refine ⟨po_none.imp fun σ H Q h => ?_⟩
  obtain ⟨w, rho, st, c, st', S, E, e, f⟩ := h
  cases e
  exact f w H (Mono.refl w H) S
theorem so_some (h : SE X G e m) : SO X G (some e) (mPart m) := by
  refine ⟨(po_some h.pe).imp fun σ H Q h => ?_⟩
  obtain ⟨w, rho, st, c, st', S, E, e, f⟩ := h
  obtain ⟨⟨x, s1⟩, e1, e⟩ := bindS e
  refine ⟨w, rho, st, x, s1, S, E, e1, fun w1 H1 v1 m1 S1 r1 => ?_⟩
  simp only at e
  split at e
  · cases r1
    cases e
    exact ⟨_, rfl, f w1 H1 m1 S1⟩
  · cases e
def slV (st : Store) (x : Vl) (lo hi : Option Int) : Option Vl :=
  match x with
  | .d (.tup ds) => some (.d (.tup (cutD ds lo hi)))
  | .d (.scr ns) => some (.d (.lst ((cutD ns lo hi).map D.int)))
  | x => (lstOf st x).map fun ds => .d (.lst (cutD ds lo hi))
theorem sl_tupF : SlR X (fun x lo hi H Q => ∃ a xs, x = .ref a ∧ SqT X.K H a xs ∧
  (HT.sIx xs.length 0 lo = 0 ∧ HT.sIx xs.length xs.length hi = xs.length → Q (.ref a) H) ∧ (¬ (HT.sIx xs.length 0 lo = 0 ∧ HT.sIx xs.length xs.length hi = xs.length) → ∀ p o, H p = none → o.dict = none → Q (.ref p) (upd H p (.frz o (.tup (cutV xs lo hi)))))) := by
  intro pins s σ H x v vl vu lo hi sl Q I rx hs pl pu h
  obtain ⟨a, xs, rfl, hx, q1, q2⟩ := h
  cases rx
  obtain ⟨its, r, ht, hz⟩ := I.tuple hx
  have hlen : its.toArray.size = xs.length := by rw [List.size_toArray]; exact r.length.symm
  refine ⟨"tuple", _, PyProof.Rows.slot_tuple_getitem.lookup, ht.typeIs, ?_⟩
  by_cases hw : HT.sIx xs.length 0 lo = 0 ∧ HT.sIx xs.length xs.length hi = xs.length
  · exact getItem_tuple_whole ht hs pl pu (by rw [hlen]; exact hw) ⟨.ref a, H, I, rfl, q1 hw⟩
  · refine HT.getItem_tuple_cut ht hs pl pu (by rw [hlen]; exact hw) ?_ (by rw [hlen]; exact hz)
    rw [hlen]
    exact tupLaid I ((r.drop (HT.sIx xs.length 0 lo)).take (HT.sIx xs.length xs.length hi - HT.sIx xs.length 0 lo)) (Nat.le_trans (cutV_length xs lo hi) hz) (q2 hw)
def rSlV (G : Sit) : V → Option Int → Option Int → Hp → VK → Prop := fun x lo hi H Q => ∃ w st a c, StOk G w H st ∧ RepV G w H a x ∧ slV st a lo hi = some c ∧ Fin G w H c st Q
theorem sl_V (hK : G.K = X.K) : SlR X (rSlV G) := by
  intro pins s σ H x v vl vu l u sl Q I rx hs pl pu h
  obtain ⟨w, st, a, c, S3, r3, e4, f3⟩ := h
  refine (sl_tupF.or sl_list) pins s σ H x v vl vu l u sl Q I rx hs pl pu ?_
  unfold slV at e4
  split at e4
  · rename_i ds
    cases e4
    cases r3 with
    | tup k1 k2 k3 k4 =>
      rename_i a' o' vs'
      refine .inl ⟨a', vs', rfl, .inl (.inr ⟨_, k1⟩), fun hw => ?_, fun _ p o hp ho => ?_⟩
      · have : cutD ds l u = ds := by
          unfold cutD
          rw [k4.length, hw.1, hw.2, List.drop_zero, Nat.sub_zero, ← k4.length, List.take_length]
        rw [this] at f3
        exact f3.now S3 (.tup k1 k2 k3 k4)
      · obtain ⟨m, S', r'⟩ := newTup S3 hp ho (cut_rep k4)
        exact f3 _ _ _ m S' r'
  · rename_i ns
    cases e4
    cases r3 with
    | scr k1 =>
      refine .inr ⟨_, _, rfl, by rw [← hK]; exact k1.sq, fun p hp => ?_⟩
      have q := RepL.of_ints (G := G) (mu := w.mu) (H := H) (cutD ns l u)
      have e5 : cutV (ns.map V.int) l u = (cutD ns l u).map V.int := cutD_map V.int ns l u
      obtain ⟨m, S', r'⟩ := newLst S3 hp q
      rw [e5]
      exact f3 _ _ _ m S' r'
  · obtain ⟨ds, h1, h2⟩ := mapS e4
    cases h2
    obtain ⟨p, vs, rfl, q1, q2⟩ := lstOf_ok S3 r3 h1
    refine .inr ⟨p, vs, rfl, SqL.of q1, fun p2 hp => ?_⟩
    obtain ⟨m, S', r'⟩ := newLst S3 hp (cut_rep q2)
    exact f3 _ _ _ m S' r'
def mSl (ma : EM) (ml mh : OM) : EM := fun rho st => (ma rho st).bind fun p => (ml rho p.2).bind fun q => (mh rho q.2).bind fun r => (slV r.2 p.1 q.1 r.1).map fun c => (c, r.2)
theorem se_sl {lo hi : Option Expr} {ml mh : OM} {p2 : Pos} (hK : G.K = X.K) (ha : SE X G a ma) (hl : SO X G lo ml) (hh : SO X G hi mh) : SE X G (.Subscript a (.Slice lo hi none p2) pos) (mSl ma ml mh) := by
  refine ⟨(pe_slice (sl_V hK) ha.pe hl.po hh.po).imp fun σ H Q h => ?_⟩
  obtain ⟨w, rho, st, c, st', S, E, e, f⟩ := h
  obtain ⟨⟨x, s1⟩, e1, e⟩ := bindS e
  obtain ⟨⟨l, s2⟩, e2, e⟩ := bindS e
  obtain ⟨⟨u, s3⟩, e3, e⟩ := bindS e
  obtain ⟨z, e4, e⟩ := mapS e
  cases e
  exact ⟨w, rho, st, x, s1, S, E, e1, fun w1 H1 v1 m1 S1 r1 => ⟨w1, rho, s1, l, s2, S1, m1.env E, e2, fun w2 H2 m2 S2 => ⟨w2, rho, s2, u, _, S2, m2.env (m1.env E), e3, fun w3 H3 m3 S3 =>
    ⟨w3, _, x, _, S3, m3.repV (m2.repV r1), e4, ((f.from m1).from m2).from m3⟩⟩⟩⟩

/-! ### o.f -/
def fldOf (ns : List Str) (ds : List D) (f : Str) : Option D := (ns.zip ds).lookup f
theorem fld_rep {mu : List Addr} {H : Hp} {f : Str} {d : D} : ∀ {ns : List Str} {ds : List D} {vs : List V}, ns.length = vs.length → RepL G mu H ds vs → fldOf ns ds f = some d → ∃ v, (ns.zip vs).lookup f = some v ∧ Rep G mu H d v
  | [], _, _, _, _, h => by simp [fldOf] at h
  | c :: ns, _, _, l, .nil, _ => by simp at l
  | c :: ns, d0 :: ds, v0 :: vs, l, .cons r1 r2, h => by
    by_cases e : f = c
    · subst e
      have : d0 = d := by simpa [fldOf, List.lookup] using h
      subst this
      exact ⟨v0, by simp [List.lookup], r1⟩
    · have e' : (f == c) = false := beq_eq_false_iff_ne.mpr e
      have h' : fldOf ns ds f = some d := by simpa [fldOf, List.lookup, e'] using h
      obtain ⟨v, h1, h2⟩ := fld_rep (by simpa using l) r2 h'
      exact ⟨v, by simpa [List.lookup, e'] using h1, h2⟩
def fldV (f : Str) (st : Store) : Vl → Option Vl
  | .d (.obj _ ns ds) => (fldOf ns ds f).map Vl.d
  | .r n => match st[n]? with
    | some (.obj _ ns ds) => (fldOf ns ds f).map Vl.d
    | _ => none
  | _ => none
theorem fldV_ok {f : Str} {w : Wd} {H : Hp} {st : Store} {x c : Vl} {v1 : V} {Q : VK} (S1 : StOk G w H st) (r1 : RepV G w H x v1) (e3 : fldV f st x = some c) (f2 : Fin G w H c st Q) :
    ∃ a C dx fs v, v1 = .ref a ∧ H a = some (.ins C dx fs) ∧ (∃ i, G.cls i = some C) ∧ fs.lookup f = some v ∧ Q v H := by
  unfold fldV at e3
  split at e3
  · obtain ⟨d, h1, h2⟩ := mapS e3
    subst h2
    cases r1 with
    | obj k1 k2 k3 k4 k5 =>
      obtain ⟨v, g1, g2⟩ := fld_rep k4 k5 h1
      exact ⟨_, _, _, _, v, rfl, k1, ⟨_, k3⟩, g1, f2.now S1 g2⟩
  · split at e3
    · rename_i hcell
      obtain ⟨d, h1, h2⟩ := mapS e3
      subst h2
      obtain ⟨p, p1, p2⟩ := r1
      obtain ⟨q, dx, C, vs, rfl, q1, q2, q3, q4⟩ := S1.cell _ _ p hcell p1
      obtain ⟨v, g1, g2⟩ := fld_rep q3 q4 h1
      exact ⟨q, C, dx, _, v, p2 q [] rfl, q1, ⟨_, q2⟩, g1, f2.now S1 g2⟩
    · cases e3
  · cases e3
theorem se_fld {f : Str} (hc : ∀ c C, G.cls c = some C → Cls X.K C) (hf : ∀ c C, G.cls c = some C → NoAttr X.K C f) (ha : SE X G a ma) (hb : attributeBase a f X.env (eval a X.env) = eval a X.env := by rfl) : SE X G (.Attribute a f pos) (mUn (fldV f) ma) := by
  refine ⟨(pe_fld ha.pe hb).imp fun σ H Q h => ?_⟩
  obtain ⟨w, rho, st, c, st', S, E, e, f2⟩ := h
  obtain ⟨⟨x, s1⟩, e1, e⟩ := bindS e
  obtain ⟨z, e3, e⟩ := mapS e
  cases e
  refine ⟨w, rho, st, x, _, S, E, e1, fun w1 H1 v1 m1 S1 r1 => ?_⟩
  obtain ⟨a, C, dx, fs, v, h1, h2, ⟨i, h3⟩, h4, h5⟩ := fldV_ok S1 r1 e3 (f2.from m1)
  exact ⟨a, C, dx, fs, v, h1, h2, hc _ _ h3, hf _ _ h3, h4, h5⟩
end
end Mini

set_option Elab.async false
set_option linter.all false
set_option maxRecDepth 100000
namespace Mini
open PySem PySem.Spec PyProof.Rows L2

inductive Fl where
  | nx | rt (x : Vl) | bk | ct
abbrev SM := Rho → Store → Option (Fl × Rho × Store)
def FinS (G : Sit) (w : Wd) (H : Hp) (f : Fl) (rho' : Rho) (st' : Store) (D : Ends) : Prop := ∀ w' H', Mono w w' H H' → StOk G w' H' st' → match f with
  | .nx => ∀ σ', EnvOk G w' H' σ' rho' → D.nx σ' H'
  | .bk => ∀ σ', EnvOk G w' H' σ' rho' → D.bk σ' H'
  | .ct => ∀ σ', EnvOk G w' H' σ' rho' → D.ct σ' H'
  | .rt x => ∀ v, RepV G w' H' x v → D.rt v H'
theorem FinS.from {G : Sit} {w w' : Wd} {H H' : Hp} {f : Fl} {rho' : Rho} {st' : Store} {D : Ends} (h : FinS G w H f rho' st' D) (m : Mono w w' H H') : FinS G w' H' f rho' st' D := fun w2 H2 m2 S => h w2 H2 (m.trans m2) S
def tS (G : Sit) (m : SM) : TS := fun D σ H => ∃ w rho st f rho' st', StOk G w H st ∧ EnvOk G w H σ rho ∧ m rho st = some (f, rho', st') ∧ FinS G w H f rho' st' D
structure SS (X : Cx) (G : Sit) (st : Stmt) (m : SM) : Prop where
  ps : PS X st (tS G m)
structure SSs (X : Cx) (G : Sit) (st : List Stmt) (m : SM) : Prop where
  pss : PSs X st (tS G m)
section
variable {X : Cx} {G : Sit} {e a b : Expr} {es : List Expr} {m ma mb : EM} {mas : AM} {pos : Pos} {st : Stmt} {sts : List Stmt} {ms ms' : SM}
theorem _root_.L2.PS.imp {t t' : TS} (h : PS X st t) (hi : ∀ D σ H, t' D σ H → t D σ H) : PS X st t' := ⟨fun pins s σ H D I q => h.run pins s σ H D I (hi D σ H q)⟩
theorem _root_.L2.PSs.imp {t t' : TS} (h : PSs X sts t) (hi : ∀ D σ H, t' D σ H → t D σ H) : PSs X sts t' := ⟨fun pins s σ H D I q => h.run pins s σ H D I (hi D σ H q)⟩
def mNext : SM := fun rho st => some (.nx, rho, st)
def mSeq (m1 m2 : SM) : SM := fun rho st => (m1 rho st).bind fun p => match p.1 with
  | .nx => m2 p.2.1 p.2.2
  | f => some (f, p.2.1, p.2.2)
def mStop : SM := fun _ _ => none
theorem sss_nil : SSs X G [] mNext := by
  refine ⟨pss_nil.imp fun D σ H h => ?_⟩
  obtain ⟨w, rho, st, f, rho', st', S, E, e, q⟩ := h
  cases e
  exact q w H (Mono.refl w H) S σ E
theorem sss_one (h : SS X G st ms) : SSs X G [st] ms := ⟨pss_one h.ps⟩
theorem sss_cons (h1 : SS X G st ms) (h2 : SSs X G sts ms') : SSs X G (st :: sts) (mSeq ms ms') := by
  refine ⟨(pss_cons h1.ps h2.pss).imp fun D σ H h => ?_⟩
  obtain ⟨w, rho, st, f, rho', st', S, E, e, q⟩ := h
  obtain ⟨⟨f1, rho1, s1⟩, e1, e⟩ := bindS e
  refine ⟨w, rho, st, f1, rho1, s1, S, E, e1, fun w1 H1 m1 S1 => ?_⟩
  cases f1 with
  | nx => exact fun σ1 E1 => ⟨w1, rho1, s1, f, rho', st', S1, E1, e, q.from m1⟩
  | rt x => cases e; exact q w1 H1 m1 S1
  | bk => cases e; exact q w1 H1 m1 S1
  | ct => cases e; exact q w1 H1 m1 S1
theorem ss_never : SS X G st mStop := ⟨ps_never.imp fun D σ H h => by
  obtain ⟨w, rho, st, f, rho', st', S, E, e, q⟩ := h
  cases e⟩
theorem sss_never : SSs X G sts mStop := ⟨pss_never.imp fun D σ H h => by
  obtain ⟨w, rho, st, f, rho', st', S, E, e, q⟩ := h
  cases e⟩
theorem ss_pass : SS X G (.Pass pos) mNext := by
  refine ⟨ps_pass.imp fun D σ H h => ?_⟩
  obtain ⟨w, rho, st, f, rho', st', S, E, e, q⟩ := h
  cases e
  exact q w H (Mono.refl w H) S σ E
def mBreak : SM := fun rho st => some (.bk, rho, st)
def mCont : SM := fun rho st => some (.ct, rho, st)
theorem ss_break : SS X G (.Break pos) mBreak := by
  refine ⟨ps_break.imp fun D σ H h => ?_⟩
  obtain ⟨w, rho, st, f, rho', st', S, E, e, q⟩ := h
  cases e
  exact q w H (Mono.refl w H) S σ E
theorem ss_cont : SS X G (.Continue pos) mCont := by
  refine ⟨ps_continue.imp fun D σ H h => ?_⟩
  obtain ⟨w, rho, st, f, rho', st', S, E, e, q⟩ := h
  cases e
  exact q w H (Mono.refl w H) S σ E
def mRet (m : EM) : SM := fun rho st => (m rho st).map fun p => (.rt p.1, rho, p.2)
theorem ss_ret (h : SE X G e m) : SS X G (.Return (some e) pos) (mRet m) := by
  refine ⟨(ps_ret h.pe).imp fun D σ H h => ?_⟩
  obtain ⟨w, rho, st, f, rho', st', S, E, e, q⟩ := h
  obtain ⟨⟨x, s1⟩, e1, e⟩ := mapS e
  cases e
  exact ⟨w, _, st, x, _, S, E, e1, fun w1 H1 v m1 S1 r1 => q w1 H1 m1 S1 v r1⟩
def mRetN : SM := fun rho st => some (.rt (.d .non), rho, st)
theorem ss_retN : SS X G (.Return none pos) mRetN := by
  refine ⟨ps_retN.imp fun D σ H h => ?_⟩
  obtain ⟨w, rho, st, f, rho', st', S, E, e, q⟩ := h
  cases e
  exact q w H (Mono.refl w H) S .non .non
def mDrop (m : EM) : SM := fun rho st => (m rho st).map fun p => (.nx, rho, p.2)
theorem ss_expr (h : SE X G e m) (hs : swapsWith e none pos.line X.env = pure false := by rfl) : SS X G (.Expr e pos) (mDrop m) := by
  refine ⟨(ps_expr h.pe hs).imp fun D σ H h => ?_⟩
  obtain ⟨w, rho, st, f, rho', st', S, E, e, q⟩ := h
  obtain ⟨⟨x, s1⟩, e1, e⟩ := mapS e
  cases e
  exact ⟨w, _, st, x, _, S, E, e1, fun w1 H1 v m1 S1 r1 => q w1 H1 m1 S1 σ (m1.env E)⟩
def mIf (t : TM) (m1 m2 : SM) : SM := fun rho st => (t rho st).bind fun p => if p.1 then m1 rho p.2 else m2 rho p.2
theorem ss_if {c : Expr} {p q : List Stmt} {t : TM} (hc : SC X G c t) (hp : SSs X G p ms) (hq : SSs X G q ms') : SS X G (.If c p q pos) (mIf t ms ms') := by
  refine ⟨(ps_if hc.pt hp.pss hq.pss).imp fun D σ H h => ?_⟩
  obtain ⟨w, rho, st, f, rho', st', S, E, e, q⟩ := h
  obtain ⟨⟨x, s1⟩, e1, e⟩ := bindS e
  refine ⟨w, rho, st, x, s1, S, E, e1, fun w1 H1 m1 S1 => ?_⟩
  cases x with
  | true =>
    rw [if_pos rfl] at e ⊢
    exact ⟨w1, rho, s1, f, rho', st', S1, m1.env E, e, q.from m1⟩
  | false =>
    rw [if_neg Bool.false_ne_true] at e ⊢
    exact ⟨w1, rho, s1, f, rho', st', S1, m1.env E, e, q.from m1⟩
def mSet (i : Nat) (m : EM) : SM := fun rho st => (m rho st).map fun p => (.nx, rho.set i (some p.1), p.2)
theorem tAsg_set {i : Nat} {D : Ends} {σ : L2.St} {H : Hp} (h : tS G (mSet i m) D σ H) : tAsg (tE G m) (gName i) D σ H := by
  obtain ⟨w, rho, st, f, rho', st', S, E, e, q⟩ := h
  obtain ⟨⟨x, s1⟩, e1, e⟩ := mapS e
  cases e
  exact ⟨w, rho, st, x, _, S, E, e1, fun w1 H1 v m1 S1 r1 => q w1 H1 m1 S1 _ ((m1.env E).set r1 i)⟩
theorem ss_set (i : Nat) {x : Str} {pos' : Pos} (hN : X.N.Nodup) (he : SE X G e m) (hi : X.N[i]? = some x := by rfl) (hx : Loc X.env.scope x := by first | exact Or.inl rfl | exact Or.inr rfl)
    (hs : swapsWith e (some (.Name x pos')) pos.line X.env = pure false := by rfl) (hf : X.fn x = true ∨ X.env.scope.names.lookup x = some .local := by first | exact .inl rfl | exact .inr rfl | assumption) :
    SS X G (.Assign [.Name x pos'] e pos) (mSet i m) := ⟨(ps_set hN hi hx he.pe hs hf).imp fun _ _ _ h => tAsg_set h⟩
/-- the content of a changing thing is fixed from here on -/
def frzC : Cell → Option D
  | .lst ds => some (.lst ds)
  | .grid rs => some (.lst (rs.map D.lst))
  | .dic ks ds => some (.dic ks ds)
  | .obj c ns ds => some (.obj c ns ds)
  | .dead => none

/-! ### targets -/
inductive Itm where
  | one (x : D) | pair (x y : D)
def ItmRep (G : Sit) (w : Wd) (H : Hp) : Itm → V → Prop
  | .one d, v => Rep G w.mu H d v
  | .pair x y, v => ∃ T x1 y1, v = .ref T ∧ SqT G.K H T [x1, y1] ∧ Rep G w.mu H x x1 ∧ Rep G w.mu H y y1
abbrev GM := Itm → Rho → Option Rho
def tG (G : Sit) (sl : List Nat) (g : GM) : TG := fun v σ H Q => ∃ w rho st it rho', StOk G w H st ∧ EnvOk G w H σ rho ∧ ItmRep G w H it v ∧ g it rho = some rho' ∧ ∀ σ', EnvOk G w H σ' rho' → (∀ j, j ∉ sl → σ'[j]? = σ[j]?) → σ'.length = σ.length → Q σ' H
structure SG (X : Cx) (G : Sit) (tg : Expr) (sl : List Nat) (g : GM) : Prop where
  pg : PG X tg (tG G sl g)
def gAll : List GM → List D → Rho → Option Rho
  | [], [], rho => some rho
  | g :: gs, d :: ds, rho => (g (.one d) rho).bind (gAll gs ds)
  | _, _, _ => none
def tGs (G : Sit) (sl : List Nat) (gs : List GM) : TGs := fun vs σ H Q => ∃ w rho st ds rho', StOk G w H st ∧ EnvOk G w H σ rho ∧ RepL G w.mu H ds vs ∧ gAll gs ds rho = some rho' ∧ ∀ σ', EnvOk G w H σ' rho' → (∀ j, j ∉ sl → σ'[j]? = σ[j]?) → σ'.length = σ.length → Q σ' H
structure SGs (X : Cx) (G : Sit) (ts : List Expr) (sl : List Nat) (gs : List GM) : Prop where
  pgs : PGs X ts (tGs G sl gs)
theorem _root_.L2.PG.imp {tg : Expr} {t t' : TG} (h : PG X tg t) (hi : ∀ v σ H Q, t' v σ H Q → t v σ H Q) : PG X tg t' := ⟨fun pins s σ H v u Q I r q => h.run pins s σ H v u Q I r (hi v σ H Q q)⟩
theorem _root_.L2.PGs.imp {ts : List Expr} {t t' : TGs} (h : PGs X ts t) (hi : ∀ v σ H Q, t' v σ H Q → t v σ H Q) : PGs X ts t' := ⟨fun pins s σ H v u Q I r q => h.run pins s σ H v u Q I r (hi v σ H Q q)⟩
def gNm (i : Nat) : GM := fun it rho => match it with
  | .one d => some (rho.set i (some (.d d)))
  | _ => none
def gTp (gs : List GM) : GM := fun it rho => match it with
  | .one (.tup ds) => gAll gs ds rho
  | .pair x y => gAll gs [x, y] rho
  | _ => none
theorem sg_name (i : Nat) {x : Str} (hN : X.N.Nodup) (hi : X.N[i]? = some x := by rfl) (hx : Loc X.env.scope x := by first | exact Or.inl rfl | exact Or.inr rfl) (hf : X.fn x = true ∨ X.env.scope.names.lookup x = some .local := by first | exact .inl rfl | exact .inr rfl | assumption) :
    SG X G (.Name x pos) [i] (gNm i) := by
  refine ⟨(pg_name hN hi hx hf).imp fun v σ H Q h => ?_⟩
  obtain ⟨w, rho, st, it, rho', S, E, r, e, q⟩ := h
  cases it with
  | one d =>
    cases e
    exact q _ (E.set (x := .d d) r i) (fun j hj => List.getElem?_set_ne (fun z => hj (by simp [z]))) (List.length_set ..)
  | pair x y => cases e
theorem sgs_nil : SGs X G [] [] [] := by
  refine ⟨pgs_nil.imp fun vs σ H Q h => ?_⟩
  obtain ⟨w, rho, st, ds, rho', S, E, r, e, q⟩ := h
  cases ds with
  | nil =>
    cases r
    cases e
    exact ⟨rfl, q σ E (fun _ _ => rfl) rfl⟩
  | cons d ds => cases e
theorem sgs_cons {t : Expr} {ts : List Expr} {sl sls : List Nat} {g : GM} {gs : List GM} (h1 : SG X G t sl g) (h2 : SGs X G ts sls gs)
    (hs : (assignEach (t :: ts) X.env).map (·.2) = assign t X.env :: (assignEach ts X.env).map (·.2) := by rfl) : SGs X G (t :: ts) (sl ++ sls) (g :: gs) := by
  refine ⟨(pgs_cons h1.pg h2.pgs hs).imp fun vs σ H Q h => ?_⟩
  obtain ⟨w, rho, st, ds, rho', S, E, r, e, q⟩ := h
  cases ds with
  | nil => cases e
  | cons d ds =>
    cases r with
    | cons r1 r2 =>
      obtain ⟨rho1, e1, e⟩ := bindS e
      refine ⟨_, _, rfl, w, rho, st, .one d, rho1, S, E, r1, e1, fun σ1 E1 k1 l1 => ⟨w, rho1, st, ds, rho', S, E1, r2, e, fun σ2 E2 k2 l2 => q σ2 E2 (fun j hj => ?_) (l2.trans l1)⟩⟩
      rw [k2 j (fun z => hj (List.mem_append_right _ z)), k1 j (fun z => hj (List.mem_append_left _ z))]
theorem gAll_len : ∀ {gs : List GM} {ds : List D} {rho rho' : Rho}, gAll gs ds rho = some rho' → ds.length = gs.length
  | [], [], _, _, _ => rfl
  | [], _ :: _, _, _, h => by cases h
  | _ :: _, [], _, _, h => by cases h
  | g :: gs, d :: ds, _, _, h => by
    obtain ⟨rho1, _, h⟩ := bindS h
    rw [List.length_cons, List.length_cons, gAll_len h]
theorem sg_tup {ts : List Expr} {k : Nat} {sl : List Nat} {gs : List GM} (hK : G.K = X.K) (hc : X.calm = true) (h : SGs X G ts sl gs) (hn : (assignEach ts X.env).length = gs.length := by rfl) (hst : (assignEach ts X.env).findIdx? (·.1) = none := by rfl) :
    SG X G (.Tuple ts k pos) sl (gTp gs) := by
  refine ⟨(pg_tup hc h.pgs hn hst).imp fun v σ H Q h => ?_⟩
  obtain ⟨w, rho, st, it, rho', S, E, r, e, q⟩ := h
  cases it with
  | one d =>
    cases d with
    | tup ds =>
      cases (show Rep G w.mu H (.tup ds) v from r) with
      | tup k1 k2 k3 k4 => exact ⟨_, _, rfl, .inl (.inr ⟨_, k1⟩), by rw [← k4.length]; exact gAll_len e, w, rho, st, ds, rho', S, E, k4, e, q⟩
    | _ => cases e
  | pair x y =>
    obtain ⟨T, x1, y1, rfl, k1, k2, k3⟩ := r
    exact ⟨T, [x1, y1], rfl, by rw [← hK]; exact k1, gAll_len (ds := [x, y]) e, w, rho, st, [x, y], rho', S, E, .cons k2 (.cons k3 .nil), e, q⟩
/-- a, b = e -/
def mUnp (g : GM) (m : EM) : SM := fun rho st => (m rho st).bind fun p => match p.1 with
  | .d x => (g (.one x) rho).map fun rho' => (.nx, rho', p.2)
  | _ => none
theorem ss_unp {tg : Expr} {sl : List Nat} {g : GM} (he : SE X G e m) (hg : SG X G tg sl g) (hs : swapsWithSole [tg] e pos.line X.env = pure false := by rfl) (hw : swappedStores [tg] e X.env = pure none := by rfl)
    (h1 : (assignEach [tg] X.env).map (·.2) = [assign tg X.env] := by rfl) : SS X G (.Assign [tg] e pos) (mUnp g m) := by
  refine ⟨(ps_asg he.pe hg.pg hs hw h1).imp fun D σ H h => ?_⟩
  obtain ⟨w, rho, st, f, rho', st', S, E, e, q⟩ := h
  obtain ⟨⟨x, s1⟩, e1, e⟩ := bindS e
  refine ⟨w, rho, st, x, s1, S, E, e1, fun w1 H1 v m1 S1 r1 => ?_⟩
  cases x with
  | d x =>
    obtain ⟨rho2, e2, e⟩ := mapS e
    cases e
    exact ⟨w1, rho, _, .one x, _, S1, m1.env E, r1, e2, fun σ' E' _ _ => q w1 H1 m1 S1 σ' E'⟩
  | r n => cases e
  | rr n i => cases e
/-- a, b = e1, e2 -/
def setAll : List Nat → List Vl → Rho → Option Rho
  | [], [], rho => some rho
  | i :: is, x :: xs, rho => setAll is xs (rho.set i (some x))
  | _, _, _ => none
def mPar (is : List Nat) (ma : AM) : SM := fun rho st => (ma rho st).bind fun p => (setAll is p.1 rho).map fun rho' => (.nx, rho', p.2)
theorem ss_par2 (i j : Nat) {x y : Str} {px py pt : Pos} {kt k2 pt2} (hc : X.calm = true) (hN : X.N.Nodup) (ha : SA X G [a, b] mas) (hi : X.N[i]? = some x := by rfl) (hj : X.N[j]? = some y := by rfl) (hij : i ≠ j := by decide)
    (hx : X.env.scope.names.lookup x = some .local := by rfl) (hy : X.env.scope.names.lookup y = some .local := by rfl)
    (hw : swappedStores [.Tuple [.Name x px, .Name y py] kt pt] (.Tuple [a, b] k2 pt2) X.env = pure (some [x, y]) := by rfl)
    (hs : swapsWithSole [.Tuple [.Name x px, .Name y py] kt pt] (.Tuple [a, b] k2 pt2) pos.line X.env = pure false := by rfl) :
    SS X G (.Assign [.Tuple [.Name x px, .Name y py] kt pt] (.Tuple [a, b] k2 pt2) pos) (mPar [i, j] mas) := by
  refine ⟨(ps_par hc hN hi hj hij hx hy ha.pa hw hs).imp fun D σ H h => ?_⟩
  obtain ⟨w, rho, st, f, rho', st', S, E, e, q⟩ := h
  obtain ⟨⟨xs, s1⟩, e1, e⟩ := bindS e
  obtain ⟨rho2, e2, e⟩ := mapS e
  cases e
  refine ⟨w, rho, st, xs, _, S, E, e1, fun w1 H1 vs m1 S1 r1 => ?_⟩
  match xs, vs, r1, e2 with
  | [u1, u2], _, .cons r1 (.cons r2 .nil), e2 =>
    cases e2
    exact ⟨_, _, rfl, q w1 H1 m1 S1 _ (((m1.env E).set r1 i).set r2 j)⟩
  | [], _, _, e2 => cases e2
  | [_], _, _, e2 => cases e2
  | _ :: _ :: _ :: _, _, _, e2 => cases e2

/-! ### while -/
def whLoop (t : TM) (body : SM) : Nat → SM
  | 0, _, _ => none
  | n + 1, rho, st => (t rho st).bind fun p => if p.1 then (body rho p.2).bind fun q => match q.1 with
      | .nx => whLoop t body n q.2.1 q.2.2
      | .ct => whLoop t body n q.2.1 q.2.2
      | .bk => some (.nx, q.2.1, q.2.2)
      | .rt x => some (.rt x, q.2.1, q.2.2)
    else some (.nx, rho, p.2)
theorem ss_while (n : Nat) {c : Expr} {body : List Stmt} {t : TM} (hp : PassesOwn (model X.prog X.w) X.A X.env X.xe) (hc : SC X G c t) (hb : SSs X G body ms) : SS X G (.While c body [] pos) (whLoop t ms n) := by
  refine ⟨(ps_while hp hc.pt hb.pss).imp fun D σ H h => ?_⟩
  obtain ⟨w, rho, st, f, rho', st', S, E, e, q⟩ := h
  refine ⟨fun m σ2 H2 => ∃ w2 rho2 st2, Mono w w2 H H2 ∧ StOk G w2 H2 st2 ∧ EnvOk G w2 H2 σ2 rho2 ∧ whLoop t ms m rho2 st2 = some (f, rho', st'), ⟨n, w, rho, st, Mono.refl w H, S, E, e⟩, ?_⟩
  rintro m σ2 H2 ⟨w2, rho2, st2, m2, S2, E2, e2⟩
  cases m with
  | zero => cases e2
  | succ m =>
    obtain ⟨⟨x, s3⟩, e3, e2⟩ := bindS e2
    refine ⟨w2, rho2, st2, x, s3, S2, E2, e3, fun w3 H3 m3 S3 => ?_⟩
    cases x with
    | false =>
      rw [if_neg Bool.false_ne_true] at e2 ⊢
      cases e2
      exact q w3 H3 (m2.trans m3) S3 σ2 (m3.env E2)
    | true =>
      rw [if_pos rfl] at e2 ⊢
      obtain ⟨⟨g, rho4, s4⟩, e4, e2⟩ := bindS e2
      refine ⟨fun σ5 H5 => ∃ w5 rho5 st5, Mono w w5 H H5 ∧ StOk G w5 H5 st5 ∧ EnvOk G w5 H5 σ5 rho5 ∧ whLoop t ms m rho5 st5 = some (f, rho', st'), fun σ5 H5 h5 => ⟨m, Nat.lt_succ_self m, h5⟩, ?_⟩
      refine ⟨w3, rho2, s3, g, rho4, s4, S3, m3.env E2, e4, fun w5 H5 m5 S5 => ?_⟩
      have mm := (m2.trans m3).trans m5
      cases g with
      | nx => exact fun σ5 E5 => ⟨w5, rho4, s4, mm, S5, E5, e2⟩
      | ct => exact fun σ5 E5 => ⟨w5, rho4, s4, mm, S5, E5, e2⟩
      | bk =>
        cases e2
        exact q w5 H5 mm S5
      | rt x =>
        cases e2
        exact q w5 H5 mm S5

/-! ### for -/
/-- an iterator gives these items -/
def ItOk (G : Sit) (w : Wd) (H : Hp) (J : It) (its : List Itm) : Prop := ∀ i w' H' st', Kept w.mu w'.mu H H' → StOk G w' H' st' →
  (its.length ≤ i → J.stop i H') ∧ ∀ it, its[i]? = some it → J.go i H' ∧ ∀ v H2, J.yld i H' v H2 → Mono w' w' H' H2 ∧ StOk G w' H2 st' ∧ ItmRep G w' H2 it v
abbrev IM := Rho → Store → Option (List Itm × Store)
def tI (G : Sit) (m : IM) : TI := fun σ H R => ∃ w rho st its st', StOk G w H st ∧ EnvOk G w H σ rho ∧ m rho st = some (its, st') ∧ ∀ w' H' J, Mono w w' H H' → StOk G w' H' st' → ItOk G w' H' J its → R J H'
structure SI (X : Cx) (G : Sit) (tg iter : Expr) (m : IM) : Prop where
  pi : PI X tg iter (tI G m)
theorem _root_.L2.PI.imp {tg iter : Expr} {t t' : TI} (h : PI X tg iter t) (hi : ∀ σ H R, t' σ H R → t σ H R) : PI X tg iter t' := ⟨fun pins s σ H R I q => h.run pins s σ H R I (hi σ H R q)⟩
theorem _root_.L2.PI.or {tg iter : Expr} {t t' : TI} (h : PI X tg iter t) (h' : PI X tg iter t') : PI X tg iter (fun σ H R => t σ H R ∨ t' σ H R) := ⟨fun pins s σ H R I q => q.elim (h.run pins s σ H R I) (h'.run pins s σ H R I)⟩
def forLoop (g : GM) (body : SM) : List Itm → SM
  | [], rho, st => some (.nx, rho, st)
  | it :: its, rho, st => (g it rho).bind fun rho1 => (body rho1 st).bind fun q => match q.1 with
    | .nx => forLoop g body its q.2.1 q.2.2
    | .ct => forLoop g body its q.2.1 q.2.2
    | .bk => some (.nx, q.2.1, q.2.2)
    | .rt x => some (.rt x, q.2.1, q.2.2)
def mFor (mi : IM) (g : GM) (body : SM) : SM := fun rho st => (mi rho st).bind fun p => forLoop g body p.1 rho p.2
theorem ss_for {tg iter : Expr} {body : List Stmt} {mi : IM} {sl : List Nat} {g : GM} (hp : PassesOwn (model X.prog X.w) X.A X.env X.xe) (hc : X.calm = true) (hi : SI X G tg iter mi) (hg : SG X G tg sl g) (hb : SSs X G body ms)
    (hs : ∀ x, foldedSetIterable iter X.env x = pure x := by intro _; rfl) : SS X G (.For tg iter body [] pos) (mFor mi g ms) := by
  refine ⟨(ps_for hp hc hi.pi hg.pg hb.pss hs).imp fun D σ H h => ?_⟩
  obtain ⟨w, rho, st, f, rho', st', S, E, e, q⟩ := h
  obtain ⟨⟨its, s1⟩, e1, e⟩ := bindS e
  refine ⟨w, rho, st, its, s1, S, E, e1, fun w1 H1 J m1 S1 K1 => ?_⟩
  refine ⟨fun i m σ2 H2 => i + m = its.length ∧ ∃ w2 rho2 st2, Mono w1 w2 H1 H2 ∧ StOk G w2 H2 st2 ∧ EnvOk G w2 H2 σ2 rho2 ∧ forLoop g ms (its.drop i) rho2 st2 = some (f, rho', st'), ⟨its.length, by omega, w1, rho, s1, Mono.refl w1 H1, S1, m1.env E, e⟩, ?_⟩
  rintro i m σ2 H2 ⟨hm, w2, rho2, st2, m2, S2, E2, e2⟩
  obtain ⟨k1, k2⟩ := K1 i w2 H2 st2 m2.toKept S2
  by_cases hlt : i < its.length
  · rw [List.drop_eq_getElem_cons hlt] at e2
    obtain ⟨go, k3⟩ := k2 its[i] (List.getElem?_eq_getElem hlt)
    obtain ⟨rho3, e3, e2⟩ := bindS e2
    obtain ⟨⟨g4, rho4, s4⟩, e4, e2⟩ := bindS e2
    refine .inr ⟨go, fun σ5 H5 => ∃ w5 rho5 st5, Mono w1 w5 H1 H5 ∧ StOk G w5 H5 st5 ∧ EnvOk G w5 H5 σ5 rho5 ∧ forLoop g ms (its.drop (i + 1)) rho5 st5 = some (f, rho', st'), fun σ5 H5 h5 => ⟨m - 1, by omega, by omega, h5⟩, fun v H3 y => ?_⟩
    obtain ⟨m3, S3, r3⟩ := k3 v H3 y
    refine ⟨w2, rho2, st2, its[i], rho3, S3, m3.env E2, r3, e3, fun σ4 E4 _ _ => ⟨w2, rho3, st2, g4, rho4, s4, S3, E4, e4, fun w5 H5 m5 S5 => ?_⟩⟩
    have mm := (m2.trans m3).trans m5
    cases g4 with
    | nx => exact fun σ5 E5 => ⟨w5, rho4, s4, mm, S5, E5, e2⟩
    | ct => exact fun σ5 E5 => ⟨w5, rho4, s4, mm, S5, E5, e2⟩
    | bk =>
      cases e2
      exact q w5 H5 (m1.trans mm) S5
    | rt x =>
      cases e2
      exact q w5 H5 (m1.trans mm) S5
  · rw [List.drop_eq_nil_of_le (by omega)] at e2
    cases e2
    exact .inl ⟨k1 (by omega), q w2 H2 (m1.trans m2) S2 σ2 E2⟩
end
end Mini

set_option Elab.async false
set_option linter.all false
set_option maxRecDepth 100000
namespace Mini
open PySem PySem.Spec PyProof.Rows L2

section
variable {X : Cx} {G : Sit} {e a b tg iter : Expr} {es : List Expr} {m ma mb : EM} {mas : AM} {pos p : Pos} {ms ms' : SM}

theorem repLst {w : Wd} {H : Hp} {ds : List D} {v : V} (r : RepV G w H (.d (.lst ds)) v) : ∃ a vs, v = .ref a ∧ H a = some (.lst vs) ∧ a ∉ w.mu ∧ RepL G w.mu H ds vs := by
  cases (show Rep G w.mu H (.lst ds) v from r) with
  | lst k1 k2 k3 => exact ⟨_, _, rfl, k1, k2, k3⟩
theorem repTup {w : Wd} {H : Hp} {ds : List D} {v : V} (r : RepV G w H (.d (.tup ds)) v) : ∃ a o vs, v = .ref a ∧ H a = some (.frz o (.tup vs)) ∧ o.dict = none ∧ a ∉ w.mu ∧ RepL G w.mu H ds vs := by
  cases (show Rep G w.mu H (.tup ds) v from r) with
  | tup k1 k2 k3 k4 => exact ⟨_, _, _, rfl, k1, k2, k3, k4⟩
/-! ### what is walked -/
def itsOf : Vl → Option (List Itm)
  | .d (.tup ds) => some (ds.map Itm.one)
  | .d (.lst ds) => some (ds.map Itm.one)
  | _ => none
def iSeq (m : EM) : IM := fun rho st => (m rho st).bind fun p => (itsOf p.1).map fun its => (its, p.2)
theorem sqL_inj {K : PySem.W.Frag} {H : Hp} {a : Addr} {xs : List V} (h : H a = some (.lst xs)) : SqL K H a xs := .inl (.inl h)
theorem si_seq (h : SE X G iter m) : SI X G tg iter (iSeq m) := by
  refine ⟨((pi_list h.pe).or (pi_tup h.pe)).imp fun σ H R q => ?_⟩
  obtain ⟨w, rho, st, its, st', S, E, e, f⟩ := q
  obtain ⟨⟨x, s1⟩, e1, e⟩ := bindS e
  obtain ⟨z, e2, e⟩ := mapS e
  cases e
  cases x with
  | d x =>
    cases x with
    | lst ds =>
      cases e2
      refine .inl ⟨w, rho, st, _, _, S, E, e1, fun w1 H1 v m1 S1 r1 => ?_⟩
      cases (show Rep G w1.mu H1 (.lst ds) v from r1) with
      | @lst a vs _ k1 k2 k3 =>
        refine ⟨a, rfl, ⟨vs, sqL_inj k1⟩, f w1 H1 _ m1 S1 fun i w' H' s' m' S' => ?_⟩
        have h' : SqL X.K H' a vs := sqL_inj (m'.keep _ _ k1 k2)
        have r' := m'.repL k3
        refine ⟨fun hl => ⟨vs, h', by rw [← r'.length]; simpa using hl⟩, fun it hit => ?_⟩
        rw [List.getElem?_map] at hit
        obtain ⟨d, hd, rfl⟩ := mapS hit
        obtain ⟨v, hv, rv⟩ := r'.get hd
        refine ⟨⟨vs, v, h', hv⟩, fun v2 H2 y => ?_⟩
        obtain ⟨y1, y2⟩ := y
        subst y1
        have := y2 vs h'
        rw [hv] at this
        cases this
        exact ⟨Mono.refl _ _, S', rv⟩
    | tup ds =>
      cases e2
      refine .inr ⟨w, rho, st, _, _, S, E, e1, fun w1 H1 v m1 S1 r1 => ?_⟩
      cases (show Rep G w1.mu H1 (.tup ds) v from r1) with
      | @tup a o vs _ k1 ko k2 k3 =>
        have sq : ∀ {H : Hp}, H a = some (.frz o (.tup vs)) → SqT X.K H a vs := fun h => .inl (.inr ⟨_, h⟩)
        refine ⟨a, rfl, ⟨vs, sq k1⟩, f w1 H1 _ m1 S1 fun i w' H' s' m' S' => ?_⟩
        have h' : SqT X.K H' a vs := sq (m'.keep _ _ k1 k2)
        have r' := m'.repL k3
        refine ⟨fun hl => ⟨vs, h', by rw [← r'.length]; simpa using hl⟩, fun it hit => ?_⟩
        rw [List.getElem?_map] at hit
        obtain ⟨d, hd, rfl⟩ := mapS hit
        obtain ⟨v, hv, rv⟩ := r'.get hd
        refine ⟨⟨vs, v, h', hv⟩, fun v2 H2 y => ?_⟩
        obtain ⟨y1, y2⟩ := y
        subst y1
        have := y2 vs h'
        rw [hv] at this
        cases this
        exact ⟨Mono.refl _ _, S', rv⟩
    | _ => cases e2
  | r n => cases e2
  | rr n i => cases e2
def rng (lo : Int) (n : Nat) : List Itm := (List.range n).map fun k => .one (.int (lo + (k : Nat)))
def big62 (i : Int) : Bool := decide (i.natAbs < 2 ^ 62)
theorem big62_ok {i : Int} (h : big62 i = true) : -(2 ^ 62) ≤ i ∧ i < 2 ^ 62 := by
  unfold big62 at h
  have := of_decide_eq_true h
  omega
def rngOf1 : List Vl → Option (List Itm)
  | [.d (.int j)] => if big62 j then some (rng 0 j.toNat) else none
  | _ => none
def rngOf2 : List Vl → Option (List Itm)
  | [.d (.int i), .d (.int j)] => if big62 i && big62 j then some (rng i (j - i).toNat) else none
  | _ => none
def iAs (g : List Vl → Option (List Itm)) (m : AM) : IM := fun rho st => (m rho st).bind fun p => (g p.1).map fun its => (its, p.2)
theorem itr_ok {w : Wd} {H : Hp} {lo : Int} {n : Nat} : ItOk G w H (Itr lo n) (rng lo n) := by
  intro i w' H' s' m' S'
  refine ⟨fun hl => (show n ≤ i by simpa [rng] using hl), fun it hit => ?_⟩
  unfold rng at hit
  rw [List.getElem?_map] at hit
  obtain ⟨k, hk, rfl⟩ := mapS hit
  have hi : i < n := by
    by_cases h : i < n
    · exact h
    · rw [List.getElem?_eq_none (by simpa using h)] at hk; cases hk
  rw [List.getElem?_range hi] at hk
  cases hk
  refine ⟨hi, fun v2 H2 y => ?_⟩
  obtain ⟨y1, y2⟩ := y
  subst y1 y2
  exact ⟨Mono.refl _ _, S', .int _⟩
theorem si_rng1 (hg : Gl X "range") (hm : X.mg "range" = none) (ha : SA X G [a] mas) (hs : starEach [a] X.env = [(false, eval a X.env)] := by rfl) : SI X G tg (.Call (.Name "range" p) [a] [] pos) (iAs rngOf1 mas) := by
  refine ⟨(pi_range1 hg hm ha.pa hs).imp fun σ H R q => ?_⟩
  obtain ⟨w, rho, st, its, st', S, E, e, f⟩ := q
  obtain ⟨⟨xs, s1⟩, e1, e⟩ := bindS e
  obtain ⟨z, e2, e⟩ := mapS e
  cases e
  refine ⟨w, rho, st, xs, _, S, E, e1, fun w1 H1 vs m1 S1 r1 => ?_⟩
  simp only at e2
  unfold rngOf1 at e2
  split at e2
  · split at e2
    · rename_i hz
      cases e2
      match vs, r1 with
      | [_], .cons r .nil =>
        cases r
        have hz := big62_ok hz
        exact ⟨_, rfl, hz.1, hz.2, f w1 H1 _ m1 S1 itr_ok⟩
    · cases e2
  · cases e2
theorem si_rng2 (hg : Gl X "range") (hm : X.mg "range" = none) (ha : SA X G [a, b] mas) (hs : starEach [a, b] X.env = [(false, eval a X.env), (false, eval b X.env)] := by rfl) (hs2 : starEach [b] X.env = [(false, eval b X.env)] := by rfl) :
    SI X G tg (.Call (.Name "range" p) [a, b] [] pos) (iAs rngOf2 mas) := by
  refine ⟨(pi_range2 hg hm ha.pa hs hs2).imp fun σ H R q => ?_⟩
  obtain ⟨w, rho, st, its, st', S, E, e, f⟩ := q
  obtain ⟨⟨xs, s1⟩, e1, e⟩ := bindS e
  obtain ⟨z, e2, e⟩ := mapS e
  cases e
  refine ⟨w, rho, st, xs, _, S, E, e1, fun w1 H1 vs m1 S1 r1 => ?_⟩
  simp only at e2
  unfold rngOf2 at e2
  split at e2
  · split at e2
    · rename_i hz
      cases e2
      match vs, r1 with
      | [_, _], .cons r (.cons r' .nil) =>
        cases r
        cases r'
        rw [Bool.and_eq_true] at hz
        have h1 := big62_ok hz.1
        have h2 := big62_ok hz.2
        exact ⟨_, _, rfl, ⟨h1.1, h1.2, h2.1, h2.2⟩, f w1 H1 _ m1 S1 itr_ok⟩
    · cases e2
  · cases e2
/-- zip of two lists, of two tuples -/
def zipOf : List Vl → Option (List Itm)
  | [.d (.lst xs), .d (.lst ys)] => some ((xs.zip ys).map fun q => Itm.pair q.1 q.2)
  | [.d (.tup xs), .d (.tup ys)] => some ((xs.zip ys).map fun q => Itm.pair q.1 q.2)
  | _ => none
theorem pair_tup {w : Wd} {H : Hp} {st : Store} (S : StOk G w H st) {x y : D} {vx vy : V} {T : Addr} (hT : H T = none) (rx : Rep G w.mu H x vx) (ry : Rep G w.mu H y vy) :
    Mono w w H (upd H T (.tup [vx, vy])) ∧ StOk G w (upd H T (.tup [vx, vy])) st ∧ ItmRep G w (upd H T (.tup [vx, vy])) (.pair x y) (.ref T) := by
  obtain ⟨m, S', _⟩ := Mono.fresh (o := .tup [vx, vy]) S hT
  exact ⟨m, S', T, vx, vy, rfl, .inl (.inl upd_same), m.toKept.rep rx, m.toKept.rep ry⟩
theorem si_zip {elts : List Expr} {kk : Nat} {tpos : Pos} (hg : Gl X "zip") (hm : X.mg "zip" = none) (ha : SA X G [a, b] mas) (hs : starEach [a, b] X.env = (false, eval a X.env) :: starEach [b] X.env := by rfl) (hpl : (backTo pos (starEach [b] X.env)).any (·.1) = false := by rfl) :
    SI X G (.Tuple elts kk tpos) (.Call (.Name "zip" p) [a, b] [] pos) (iAs zipOf mas) := by
  refine ⟨(RZ.pi_zipA hg hm ha.pa hs hpl).imp fun σ H R q => ?_⟩
  obtain ⟨w, rho, st, its, st', S, E, e, f⟩ := q
  obtain ⟨⟨xs, s1⟩, e1, e⟩ := bindS e
  obtain ⟨z, e2, e⟩ := mapS e
  cases e
  refine ⟨w, rho, st, xs, _, S, E, e1, fun w1 H1 vs m1 S1 r1 => ?_⟩
  simp only at e2
  unfold zipOf at e2
  split at e2
  · rename_i xs ys
    cases e2
    match vs, r1 with
    | [_, _], .cons r (.cons r' .nil) =>
      obtain ⟨a1, va, rfl, k1, k2, k3⟩ := repLst r
      obtain ⟨a2, vb, rfl, l1, l2, l3⟩ := repLst r'
      · · refine ⟨a1, a2, va, vb, rfl, .inl ⟨sqL_inj k1, sqL_inj l1, f w1 H1 _ m1 S1 fun i w' H' s' m' S' => ?_⟩⟩
          have h1 : SqL X.K H' a1 va := sqL_inj (m'.keep _ _ k1 k2)
          have h2 : SqL X.K H' a2 vb := sqL_inj (m'.keep _ _ l1 l2)
          have q1 := m'.repL k3
          have q2 := m'.repL l3
          refine ⟨fun hl => ⟨va, vb, h1, h2, ?_⟩, fun it hit => ?_⟩
          · rw [List.length_map, List.length_zip, q1.length, q2.length] at hl
            omega
          · rw [List.getElem?_map] at hit
            obtain ⟨⟨x, y⟩, hd, rfl⟩ := mapS hit
            obtain ⟨hx, hy⟩ := List.getElem?_zip_eq_some.mp hd
            obtain ⟨vx, ex, rx⟩ := q1.get hx
            obtain ⟨vy, ey, ry⟩ := q2.get hy
            refine ⟨⟨va, vb, vx, vy, h1, h2, ex, ey⟩, fun v2 H2 y => ?_⟩
            obtain ⟨T, u1, u2, rfl, hT, rfl, g1, g2⟩ := y
            have z1 := g1 va h1
            have z2 := g2 vb h2
            rw [ex] at z1
            rw [ey] at z2
            cases z1
            cases z2
            exact pair_tup S' hT rx ry
  · rename_i xs ys
    cases e2
    match vs, r1 with
    | [_, _], .cons r (.cons r' .nil) =>
      obtain ⟨a1, o1, va, rfl, k1, ko, k2, k3⟩ := repTup r
      obtain ⟨a2, o2, vb, rfl, l1, lo, l2, l3⟩ := repTup r'
      · · have sq : ∀ {H : Hp} {a : Addr} {o : Obj} {vs : List V}, H a = some (.frz o (.tup vs)) → SqT X.K H a vs := fun h => .inl (.inr ⟨_, h⟩)
          refine ⟨a1, a2, va, vb, rfl, .inr ⟨sq k1, sq l1, f w1 H1 _ m1 S1 fun i w' H' s' m' S' => ?_⟩⟩
          have h1 : SqT X.K H' a1 va := sq (m'.keep _ _ k1 k2)
          have h2 : SqT X.K H' a2 vb := sq (m'.keep _ _ l1 l2)
          have q1 := m'.repL k3
          have q2 := m'.repL l3
          refine ⟨fun hl => ⟨va, vb, h1, h2, ?_⟩, fun it hit => ?_⟩
          · rw [List.length_map, List.length_zip, q1.length, q2.length] at hl
            omega
          · rw [List.getElem?_map] at hit
            obtain ⟨⟨x, y⟩, hd, rfl⟩ := mapS hit
            obtain ⟨hx, hy⟩ := List.getElem?_zip_eq_some.mp hd
            obtain ⟨vx, ex, rx⟩ := q1.get hx
            obtain ⟨vy, ey, ry⟩ := q2.get hy
            refine ⟨⟨va, vb, vx, vy, h1, h2, ex, ey⟩, fun v2 H2 y => ?_⟩
            obtain ⟨T, u1, u2, rfl, hT, rfl, g1, g2⟩ := y
            have z1 := g1 va h1
            have z2 := g2 vb h2
            rw [ex] at z1
            rw [ey] at z2
            cases z1
            cases z2
            exact pair_tup S' hT rx ry
  · cases e2
/-- enumerate of a list -/
def enumOf : List Vl → Option (List Itm)
  | [.d (.lst xs)] => some (xs.mapIdx fun i x => Itm.pair (.int (i : Nat)) x)
  | _ => none
theorem si_enum {elts : List Expr} {kk : Nat} {tpos : Pos} (hg : Gl X "enumerate") (hm : X.mg "enumerate" = none) (ha : SA X G [a] mas) (hs : starEach [a] X.env = [(false, eval a X.env)] := by rfl) :
    SI X G (.Tuple elts kk tpos) (.Call (.Name "enumerate" p) [a] [] pos) (iAs enumOf mas) := by
  refine ⟨(pi_enum hg hm ha.pa hs).imp fun σ H R q => ?_⟩
  obtain ⟨w, rho, st, its, st', S, E, e, f⟩ := q
  obtain ⟨⟨xs, s1⟩, e1, e⟩ := bindS e
  obtain ⟨z, e2, e⟩ := mapS e
  cases e
  refine ⟨w, rho, st, xs, _, S, E, e1, fun w1 H1 vs m1 S1 r1 => ?_⟩
  simp only at e2
  unfold enumOf at e2
  split at e2
  · cases e2
    match vs, r1 with
    | [_], .cons r .nil =>
      obtain ⟨a1, va, rfl, k1, k2, k3⟩ := repLst r
      refine ⟨a1, va, rfl, sqL_inj k1, f w1 H1 _ m1 S1 fun i w' H' s' m' S' => ?_⟩
      have h1 : SqL X.K H' a1 va := sqL_inj (m'.keep _ _ k1 k2)
      have q1 := m'.repL k3
      refine ⟨fun hl => ⟨va, h1, by rw [← q1.length]; simpa using hl⟩, fun it hit => ?_⟩
      rw [List.getElem?_mapIdx] at hit
      obtain ⟨x, hx, rfl⟩ := mapS hit
      obtain ⟨vx, ex, rx⟩ := q1.get hx
      refine ⟨⟨va, vx, h1, ex⟩, fun v2 H2 y => ?_⟩
      obtain ⟨T, u1, rfl, hT, rfl, g1⟩ := y
      have z1 := g1 va h1
      rw [ex] at z1
      cases z1
      exact pair_tup S' hT (.int _) rx
  · cases e2

/-! ### comprehensions -/
def unsetR (rho : Rho) : List Nat → Rho
  | [] => rho
  | v :: vs => (unsetR rho vs).set v none
theorem EnvOk.unset {w : Wd} {H : Hp} {σ : L2.St} {rho : Rho} (E : EnvOk G w H σ rho) : ∀ vs : List Nat, EnvOk G w H (wipe σ vs) (unsetR rho vs)
  | [] => E
  | v :: vs => by
    have ih := EnvOk.unset E vs
    refine ⟨by show ((unsetR rho vs).set v none).length = ((wipe σ vs).set v none).length; rw [List.length_set, List.length_set, ih.len], fun i x h => ?_⟩
    have h' : ((unsetR rho vs).set v none)[i]? = some (some x) := h
    show ∃ y, ((wipe σ vs).set v none)[i]? = some (some y) ∧ _
    by_cases hv : v = i
    · subst hv
      by_cases hl : v < (unsetR rho vs).length
      · rw [List.getElem?_set_self hl] at h'; cases h'
      · rw [List.getElem?_eq_none (by simpa using hl)] at h'; cases h'
    · rw [List.getElem?_set_ne hv] at h' ⊢
      exact ih.get i x h'
theorem wipe_in {σ : L2.St} {j : Nat} : ∀ {vs : List Nat}, j ∈ vs → (wipe σ vs)[j]? = if j < σ.length then some none else none
  | v :: vs, h => by
    show ((wipe σ vs).set v none)[j]? = _
    by_cases hv : v = j
    · subst hv
      by_cases hl : v < σ.length
      · rw [if_pos hl, List.getElem?_set_self (by rw [wipe_length]; exact hl)]
      · rw [if_neg hl, List.getElem?_eq_none (by rw [List.length_set, wipe_length]; omega)]
    · rw [List.getElem?_set_ne hv]
      exact wipe_in ((List.mem_cons.mp h).resolve_left (fun z => hv z.symm))
theorem wipe_eq {σ σ2 : L2.St} {vs sl : List Nat} (hs : ∀ j ∈ sl, j ∈ vs) (k : ∀ j, j ∉ sl → σ2[j]? = (wipe σ vs)[j]?) (l : σ2.length = (wipe σ vs).length) : wipe σ2 vs = wipe σ vs := by
  rw [wipe_length] at l
  apply List.ext_getElem?
  intro j
  by_cases hj : j ∈ vs
  · rw [wipe_in hj, wipe_in hj, l]
  · rw [wipe_out hj, k j (fun z => hj (hs j z))]
/-- the tests of a clause -/
structure STs (X : Cx) (G : Sit) (ifs : List Expr) (t : TM) : Prop where
  pts : PTs X ifs (tT G t)
theorem _root_.L2.PTs.imp {ifs : List Expr} {t t' : TT} (h : PTs X ifs t) (hi : ∀ σ H Q, t' σ H Q → t σ H Q) : PTs X ifs t' := ⟨fun pins s σ H Q I q => h.run pins s σ H Q I (hi σ H Q q)⟩
def mYes : TM := fun _ st => some (true, st)
theorem sts_nil : STs X G [] mYes := by
  refine ⟨pts_nil.imp fun σ H Q h => ?_⟩
  obtain ⟨w, rho, st, c, st', S, E, e, f⟩ := h
  cases e
  exact f w H (Mono.refl w H) S
theorem sts_one {c : Expr} {t : TM} (h : SC X G c t) : STs X G [c] t := ⟨pts_one h.pt⟩
def lcLoop (g : GM) (t : TM) (m : EM) (rho : Rho) : List Itm → Store → Option (List D × Store)
  | [], st => some ([], st)
  | it :: its, st => (g it rho).bind fun rho1 => (t rho1 st).bind fun p => if p.1 then (m rho1 p.2).bind fun q => match q.1 with
      | .d y => (lcLoop g t m rho its q.2).map fun r => (y :: r.1, r.2)
      | _ => none
    else lcLoop g t m rho its p.2
def mLc (mi : IM) (g : GM) (own : List Nat) (t : TM) (m : EM) : EM := fun rho st => (mi rho st).bind fun p => if p.1.length ≤ lim then (lcLoop g t m (unsetR rho own) p.1 p.2).map fun q => (.d (.lst q.1), q.2) else none
def mLcN (mi : IM) (g : GM) (own : List Nat) (t : TM) (m : EM) : EM := fun rho st => (mi rho st).bind fun p => if p.1.length ≤ lim then (lcLoop g t m (unsetR rho own) p.1 p.2).map fun q => (.r q.2.length, q.2 ++ [.lst q.1]) else none

/-- while the new list at D grows -/
structure MonoD (Ds : List Addr) (w w' : Wd) (H H' : Hp) : Prop extends Kept w.mu w'.mu H H' where
  nu : w'.nu = Ds ++ w.nu
  res : ∀ a ∈ w.nu, H' a = H a
  ext : ∀ (n : Nat) (p : List Addr), w.io[n]? = some p → w'.io[n]? = some p ∨ w'.io[n]? = some []
theorem MonoD.step {Ds : List Addr} {w w1 w2 : Wd} {H H1 H2 : Hp} (a : MonoD Ds w w1 H H1) (b : Mono w1 w2 H1 H2) : MonoD Ds w w2 H H2 :=
  ⟨a.toKept.trans b.toKept, b.nu.trans a.nu, fun c h => (b.res c (by rw [a.nu]; exact List.mem_append_right _ h)).trans (a.res c h), fun n p h => by
    rcases a.ext n p h with h | h
    · exact b.ext n p h
    · exact .inr ((b.ext n [] h).elim id id)⟩
theorem StOk.updNu {w : Wd} {H : Hp} {st : Store} (S : StOk G w H st) {D : Addr} {o : HO} (hD : D ∈ w.nu) : StOk G w (upd H D o) st ∧ Kept w.mu w.mu H (upd H D o) := by
  have hm : D ∈ w.mu := List.mem_append_left _ hD
  have k : Kept w.mu w.mu H (upd H D o) := ⟨fun b u h z => by rw [upd_ne (fun e : b = D => z (by rw [e]; exact hm))]; exact h, fun _ _ _ h => h⟩
  refine ⟨⟨S.len, S.nd, fun a ha => ?_, fun n c q h1 h2 => (S.cell n c q h1 h2).kept k fun b hb => upd_ne fun z : b = D => S.not_nu h2 hb (by rw [z]; exact hD)⟩, k⟩
  by_cases e : a = D
  · subst e; exact ⟨o, upd_same⟩
  · rw [upd_ne e]; exact S.res a ha
theorem StOk.reserve {w : Wd} {H : Hp} {st : Store} (S : StOk G w H st) {D : Addr} {o : HO} (hD : H D = none) : StOk G ⟨D :: w.nu, w.io⟩ (upd H D o) st ∧ MonoD [D] w ⟨D :: w.nu, w.io⟩ H (upd H D o) := by
  have hn : D ∉ w.mu := fun z => by obtain ⟨o, e⟩ := S.there D z; rw [hD] at e; cases e
  have ne : ∀ a ∈ w.mu, upd H D o a = H a := fun a h => upd_ne (fun z : a = D => hn (by rw [← z]; exact h))
  have k : Kept w.mu (D :: w.mu) H (upd H D o) := by
    refine ⟨fun a u h _ => by rw [upd_ne (ne_of_none h hD)]; exact h, fun a u h n z => ?_⟩
    rcases List.mem_cons.mp z with z | z
    · subst z; rw [hD] at h; cases h
    · exact n z
  refine ⟨⟨S.len, List.nodup_cons.mpr ⟨hn, S.nd⟩, fun a h => ?_, fun n c q h1 h2 => (S.cell n c q h1 h2).kept k fun a ha => ne a (StOk.in_mu h2 ha)⟩, k, rfl, fun a h => ne a (List.mem_append_left _ h), fun _ _ h => .inl h⟩
  rcases List.mem_cons.mp h with h | h
  · subst h; exact ⟨o, upd_same⟩
  · rw [ne a (List.mem_append_left _ h)]; exact S.res a h
theorem StOk.unreserve {w : Wd} {H : Hp} {st : Store} {D : Addr} {nu : List Addr} (hw : w.nu = D :: nu) (S : StOk G w H st) : StOk G ⟨nu, w.io⟩ H st ∧ Kept w.mu (⟨nu, w.io⟩ : Wd).mu H H ∧ D ∉ (⟨nu, w.io⟩ : Wd).mu := by
  have emu : w.mu = D :: (⟨nu, w.io⟩ : Wd).mu := by unfold Wd.mu; rw [hw]; rfl
  have k : Kept w.mu (⟨nu, w.io⟩ : Wd).mu H H := ⟨fun _ _ h _ => h, fun a _ _ n z => n (by rw [emu]; exact List.mem_cons_of_mem _ z)⟩
  have nd : (D :: (⟨nu, w.io⟩ : Wd).mu).Nodup := by rw [← emu]; exact S.nd
  exact ⟨⟨S.len, (List.nodup_cons.mp nd).2, fun a h => S.res a (by rw [hw]; exact List.mem_cons_of_mem _ h), fun n c q h1 h2 => (S.cell n c q h1 h2).kept k fun _ _ => rfl⟩, k, (List.nodup_cons.mp nd).1⟩
theorem MonoD.fin {D : Addr} {w w' : Wd} {H H' : Hp} (m : MonoD [D] w w' H H') : Mono w ⟨w.nu, w'.io⟩ H H' := by
  have emu : w'.mu = D :: (⟨w.nu, w'.io⟩ : Wd).mu := by unfold Wd.mu; rw [m.nu]; rfl
  exact ⟨⟨m.keep, fun a o h n z => m.out a o h n (by rw [emu]; exact List.mem_cons_of_mem _ z)⟩, rfl, m.res, m.ext⟩

/-- the block's loop, whatever is done with the list -/
theorem tLc_of {mi : IM} {sl own : List Nat} {g : GM} {t : TM} (hsl : ∀ j ∈ sl, j ∈ own) {σ : L2.St} {H : Hp} {Q : VK} {w : Wd} {rho : Rho} {st : Store} {its : List Itm} {s1 s2 : Store} {ys : List D}
    (S : StOk G w H st) (E : EnvOk G w H σ rho) (e1 : mi rho st = some (its, s1)) (hz : its.length ≤ lim) (e2 : lcLoop g t m (unsetR rho own) its s1 = some (ys, s2))
    (q : ∀ w1 H1 D w2 H2 vs, Mono w w1 H H1 → H1 D = none → MonoD [D] w1 w2 H1 H2 → StOk G w2 H2 s2 → H2 D = some (.lst vs) → RepL G w2.mu H2 ys vs → Q (.ref D) H2) : tLc (tI G mi) (tG G sl g) (tT G t) (tE G m) own σ H Q := by
  refine ⟨w, rho, st, its, s1, S, E, e1, fun w1 H1 J m1 S1 K1 D hD => ?_⟩
  obtain ⟨SD, MD⟩ := S1.reserve (o := .lst []) hD
  have E1 : EnvOk G w1 H1 (wipe σ own) (unsetR rho own) := (m1.env E).unset own
  refine ⟨fun i k H2 => i + k = its.length ∧ ∃ w2 st2 acc vacc rest, MonoD [D] w1 w2 H1 H2 ∧ StOk G w2 H2 st2 ∧ H2 D = some (.lst vacc) ∧ RepL G w2.mu H2 acc vacc ∧ acc.length ≤ i ∧ lcLoop g t m (unsetR rho own) (its.drop i) st2 = some (rest, s2) ∧ acc ++ rest = ys,
    ⟨its.length, by omega, _, s1, [], [], ys, MD, SD, upd_same, .nil, Nat.le_refl _, e2, rfl⟩, ?_⟩
  rintro i k H2 ⟨hk, w2, st2, acc, vacc, rest, M2, S2, hD2, ra, hl, e3, e4⟩
  obtain ⟨k1, k2⟩ := K1 i w2 H2 st2 M2.toKept S2
  have hDn : D ∈ w2.nu := by rw [M2.nu]; exact List.mem_cons_self
  by_cases hlt : i < its.length
  · rw [List.drop_eq_getElem_cons hlt] at e3
    obtain ⟨go, k3⟩ := k2 its[i] (List.getElem?_eq_getElem hlt)
    obtain ⟨rho3, e5, e3⟩ := bindS e3
    obtain ⟨⟨c, s5⟩, e6, e3⟩ := bindS e3
    refine .inr ⟨go, fun H5 => ∃ w5 st5 acc vacc rest, MonoD [D] w1 w5 H1 H5 ∧ StOk G w5 H5 st5 ∧ H5 D = some (.lst vacc) ∧ RepL G w5.mu H5 acc vacc ∧ acc.length ≤ i + 1 ∧ lcLoop g t m (unsetR rho own) (its.drop (i + 1)) st5 = some (rest, s2) ∧ acc ++ rest = ys,
      fun H5 h5 => ⟨k - 1, by omega, by omega, h5⟩, fun v H3 y => ?_⟩
    obtain ⟨m3, S3, r3⟩ := k3 v H3 y
    have M3 := M2.step m3
    have hD3 : H3 D = some (.lst vacc) := (m3.res D hDn).trans hD2
    have hK := m1.toKept.trans M3.toKept
    have E3 : EnvOk G w2 H3 (wipe σ own) (unsetR rho own) := ⟨E1.len, fun j x h => by
      obtain ⟨v, h1, h2⟩ := E1.get j x h
      refine ⟨v, h1, ?_⟩
      cases x with
      | d x => exact M3.toKept.rep h2
      | r n =>
        obtain ⟨p, e, q⟩ := h2
        rcases M3.ext n p e with e | e
        · exact ⟨p, e, q⟩
        · exact ⟨[], e, fun a q z => by cases z⟩
      | rr n i =>
        obtain ⟨p, e, q⟩ := h2
        rcases M3.ext n p e with e | e
        · exact ⟨p, e, q⟩
        · exact ⟨[], e, fun a q b z => by cases z⟩⟩
    refine ⟨w2, unsetR rho own, st2, its[i], rho3, S3, E3, r3, e5, fun σ4 E4 kj kl => ⟨wipe_eq hsl kj kl, w2, rho3, st2, c, s5, S3, E4, e6, fun w5 H5 m5 S5 => ?_⟩⟩
    have M5 := M3.step m5
    have hD5 : H5 D = some (.lst vacc) := (m5.res D hDn).trans hD3
    have ra5 := m5.toKept.repL (m3.toKept.repL ra)
    cases c with
    | false =>
      rw [if_neg Bool.false_ne_true] at e3
      refine iteF ?_
      exact ⟨w5, s5, acc, vacc, rest, M5, S5, hD5, ra5, by omega, e3, e4⟩
    | true =>
      rw [if_pos rfl] at e3
      refine iteT ?_
      obtain ⟨⟨x, s6⟩, e7, e3⟩ := bindS e3
      refine ⟨w5, rho3, s5, x, s6, S5, m5.env E4, e7, fun w6 H6 v6 m6 S6 r6 => ?_⟩
      cases x with
      | d y =>
        obtain ⟨⟨rest', s7⟩, e8, e3⟩ := mapS e3
        cases e3
        have M6 := M5.step m6
        have hD5n : D ∈ w5.nu := by rw [M5.nu]; exact List.mem_cons_self
        have hD6n : D ∈ w6.nu := by rw [M6.nu]; exact List.mem_cons_self
        have hD6 : H6 D = some (.lst vacc) := (m6.res D hD5n).trans hD5
        have ra6 := m6.toKept.repL ra5
        obtain ⟨S7, K7⟩ := S6.updNu (o := .lst (vacc ++ [v6])) hD6n
        have hl2 : acc.length = vacc.length := ra6.length
        refine ⟨vacc, hD6, by rw [lim_eq, ← hl2]; omega, w6, s6, acc ++ [y], vacc ++ [v6], rest', ?_, S7, upd_same, (K7.repL ra6).append (.cons (K7.rep r6) .nil), by simp; omega, e8, by rw [List.append_assoc]; exact e4⟩
        refine ⟨M6.toKept.trans K7, M6.nu, fun a ha => ?_, M6.ext⟩
        have hne : a ≠ D := fun z => by
          subst z
          have nd := (List.nodup_append.mp S6.nd).1
          rw [M6.nu] at nd
          exact (List.nodup_cons.mp nd).1 ha
        rw [upd_ne hne]
        exact M6.res a ha
      | r n => cases e3
      | rr n i => cases e3
  · rw [List.drop_eq_nil_of_le (by omega)] at e3
    cases e3
    refine .inl ⟨k1 (by omega), q w1 H1 D _ H2 vacc m1 hD M2 S2 hD2 ?_⟩
    rw [List.append_nil] at e4
    rw [← e4]
    exact ra
theorem lc_frz {w w1 w2 : Wd} {H H1 H2 : Hp} {D : Addr} {st : Store} {ys : List Mini.D} {vs : List V} (m1 : Mono w w1 H H1) (M2 : MonoD [D] w1 w2 H1 H2) (S : StOk G w2 H2 st) (h : H2 D = some (.lst vs)) (r : RepL G w2.mu H2 ys vs) :
    Mono w ⟨w1.nu, w2.io⟩ H H2 ∧ StOk G ⟨w1.nu, w2.io⟩ H2 st ∧ RepV G ⟨w1.nu, w2.io⟩ H2 (.d (.lst ys)) (.ref D) := by
  obtain ⟨SU, KU, nD⟩ := S.unreserve (D := D) (nu := w1.nu) M2.nu
  exact ⟨m1.trans M2.fin, SU, .lst h nD (KU.repL r)⟩
/-- reserved things become a thing that may change -/
theorem resNew {w w1 w2 : Wd} {H H1 H2 : Hp} {ps p : List Addr} {st : Store} {c : Cell} (m1 : Mono w w1 H H1) (M2 : MonoD ps w1 w2 H1 H2) (hp : p.Perm ps) (S : StOk G w2 H2 st) (hc : CellOk G w2.mu H2 c p) :
    Mono w ⟨w1.nu, w2.io ++ [p]⟩ H H2 ∧ StOk G ⟨w1.nu, w2.io ++ [p]⟩ H2 (st ++ [c]) ∧ (w2.io ++ [p])[st.length]? = some p := by
  have e1 : w2.mu = ps ++ (w1.nu ++ w2.io.flatten) := by unfold Wd.mu; rw [M2.nu, List.append_assoc]
  have e2 : (⟨w1.nu, w2.io ++ [p]⟩ : Wd).mu = (w1.nu ++ w2.io.flatten) ++ p := by unfold Wd.mu; simp [List.flatten_append]
  have pm : (⟨w1.nu, w2.io ++ [p]⟩ : Wd).mu.Perm w2.mu := by
    rw [e1, e2]
    exact List.perm_append_comm.trans (hp.append_right _)
  have mem : ∀ a, a ∈ (⟨w1.nu, w2.io ++ [p]⟩ : Wd).mu ↔ a ∈ w2.mu := fun a => pm.mem_iff
  have k : Kept w2.mu (⟨w1.nu, w2.io ++ [p]⟩ : Wd).mu H2 H2 := ⟨fun _ _ h _ => h, fun a _ _ n z => n ((mem a).mp z)⟩
  have lt : ∀ {n : Nat} {p : List Addr}, w2.io[n]? = some p → n < w2.io.length := fun {n p} e => by
    by_cases h' : n < w2.io.length
    · exact h'
    · rw [List.getElem?_eq_none (by omega)] at e; cases e
  have get : ∀ (n : Nat) (q : List Addr), w2.io[n]? = some q → (w2.io ++ [p])[n]? = some q := fun n q e => by
    rw [List.getElem?_append_left (lt e)]
    exact e
  refine ⟨m1.trans ⟨M2.toKept.trans k, rfl, M2.res, fun n q e => (M2.ext n q e).elim (fun e => .inl (get n _ e)) fun e => .inr (get n _ e)⟩, ⟨?_, pm.nodup_iff.mpr S.nd, fun a ha => S.res a (by rw [M2.nu]; exact List.mem_append_right _ ha), fun n d q h1 h2 => ?_⟩, ?_⟩
  · show (st ++ [c]).length = (w2.io ++ [p]).length
    rw [List.length_append, List.length_append, S.len]
    rfl
  · have h2' : (w2.io ++ [p])[n]? = some q := h2
    by_cases hlt : n < w2.io.length
    · rw [List.getElem?_append_left hlt] at h2'
      rw [List.getElem?_append_left (by rw [S.len]; exact hlt)] at h1
      exact (S.cell n d q h1 h2').kept k fun _ _ => rfl
    · have hlt2 : n < (w2.io ++ [p]).length := by
        by_cases h' : n < (w2.io ++ [p]).length
        · exact h'
        · rw [List.getElem?_eq_none (by omega)] at h2'; cases h2'
      have en : n = w2.io.length := by simp at hlt2; omega
      subst en
      rw [List.getElem?_append_right (Nat.le_refl _)] at h2'
      simp at h2'
      subst h2'
      rw [← S.len, List.getElem?_append_right (Nat.le_refl _)] at h1
      simp at h1
      subst h1
      exact hc.kept k fun _ _ => rfl
  · rw [S.len, List.getElem?_append_right (Nat.le_refl _)]
    simp
theorem lc_new {w w1 w2 : Wd} {H H1 H2 : Hp} {D : Addr} {st : Store} {ys : List Mini.D} {vs : List V} (m1 : Mono w w1 H H1) (hD : H1 D = none) (M2 : MonoD [D] w1 w2 H1 H2) (S : StOk G w2 H2 st) (h : H2 D = some (.lst vs)) (r : RepL G w2.mu H2 ys vs) :
    Mono w ⟨w1.nu, w2.io ++ [[D]]⟩ H H2 ∧ StOk G ⟨w1.nu, w2.io ++ [[D]]⟩ H2 (st ++ [.lst ys]) ∧ RepV G ⟨w1.nu, w2.io ++ [[D]]⟩ H2 (.r st.length) (.ref D) := by
  obtain ⟨k1, k2, k3⟩ := resNew (c := .lst ys) (p := [D]) m1 M2 (.refl _) S ⟨D, vs, rfl, h, r⟩
  exact ⟨k1, k2, [D], k3, fun a q z => by cases z; rfl⟩
theorem se_lc {ifs : List Expr} {scope : Scope} {own : List (Str × Nat)} {mi : IM} {sl : List Nat} {g : GM} {t : TM} (hc : X.calm = true) (hN : X.N.Nodup) (hi : SI X G tg iter mi) (ok : blkC X.N X.env.scope scope own = true)
    (hg : ∀ (s : Shared) (H : Hp) (C : Addr) (cl : List (Str × Addr)) (fp : List Addr), SG (X.blk s H scope (compEnvC scope cl C X.env) fp) G tg sl g) (ht : ∀ (s : Shared) (H : Hp) (C : Addr) (cl : List (Str × Addr)) (fp : List Addr), STs (X.blk s H scope (compEnvC scope cl C X.env) fp) G ifs t)
    (he : ∀ (s : Shared) (H : Hp) (C : Addr) (cl : List (Str × Addr)) (fp : List Addr), SE (X.blk s H scope (compEnvC scope cl C X.env) fp) G e m) (hsl : ∀ j ∈ sl, j ∈ own.map (·.2) := by decide) (hs : ∀ x, foldedSetIterable iter X.env x = pure x := by intro _; rfl) :
    SE X G (.ListComp e [⟨tg, iter, ifs, 0⟩] scope pos) (mLc mi g (own.map (·.2)) t m) := by
  refine ⟨(pe_lc hc hN hi.pi (blkOk_by ok) (fun s H C cl fp => (hg s H C cl fp).pg) (fun s H C cl fp => (ht s H C cl fp).pts) (fun s H C cl fp => (he s H C cl fp).pe) hs).imp fun σ H Q h => ?_⟩
  obtain ⟨w, rho, st, c, st', S, E, e, f⟩ := h
  obtain ⟨⟨its, s1⟩, e1, e⟩ := bindS e
  split at e
  · rename_i hz
    obtain ⟨⟨ys, s2⟩, e2, e⟩ := mapS e
    cases e
    refine tLc_of hsl S E e1 hz e2 fun w1 H1 D w2 H2 vs m1 hD M2 S2 hD2 r => ?_
    obtain ⟨k1, k2, k3⟩ := lc_frz m1 M2 S2 hD2 r
    exact f _ _ _ k1 k2 k3
  · cases e
/-- name = [..] on one line -/
theorem ss_setLc (i : Nat) {y : Str} {py spos : Pos} {ifs : List Expr} {scope : Scope} {own : List (Str × Nat)} {mi : IM} {sl : List Nat} {g : GM} {t : TM} (hc : X.calm = true) (hN : X.N.Nodup)
    (hi : SI X G tg iter mi) (ok : blkC X.N X.env.scope scope own = true)
    (hg : ∀ (s : Shared) (H : Hp) (C : Addr) (cl : List (Str × Addr)) (fp : List Addr), SG (X.blk s H scope (compEnvC scope cl C X.env) fp) G tg sl g) (ht : ∀ (s : Shared) (H : Hp) (C : Addr) (cl : List (Str × Addr)) (fp : List Addr), STs (X.blk s H scope (compEnvC scope cl C X.env) fp) G ifs t)
    (he : ∀ (s : Shared) (H : Hp) (C : Addr) (cl : List (Str × Addr)) (fp : List Addr), SE (X.blk s H scope (compEnvC scope cl C X.env) fp) G e m) (hy : X.N[i]? = some y := by rfl) (hyl : X.env.scope.names.lookup y = some .local := by rfl)
    (hsw : swapsWith (.ListComp e [⟨tg, iter, ifs, 0⟩] scope pos) (some (.Name y py)) spos.line X.env = pure true := by exact sw_true rfl rfl rfl (by decide +kernel)) (hsl : ∀ j ∈ sl, j ∈ own.map (·.2) := by decide) (hs : ∀ x, foldedSetIterable iter X.env x = pure x := by intro _; rfl) :
    SS X G (.Assign [.Name y py] (.ListComp e [⟨tg, iter, ifs, 0⟩] scope pos) spos) (mSet i (mLc mi g (own.map (·.2)) t m)) := by
  refine ⟨(ps_setLc hc hN hy hyl hsw hi.pi (blkOk_by ok) (fun s H C cl fp => (hg s H C cl fp).pg) (fun s H C cl fp => (ht s H C cl fp).pts) (fun s H C cl fp => (he s H C cl fp).pe) hs).imp fun D σ H h => ?_⟩
  obtain ⟨w, rho, st, f, rho', st', S, E, e, q⟩ := h
  obtain ⟨⟨x, s1⟩, e1, e⟩ := mapS e
  cases e
  obtain ⟨⟨its, s3⟩, e3, e1⟩ := bindS e1
  split at e1
  · rename_i hz
    obtain ⟨⟨ys, s2⟩, e2, e1⟩ := mapS e1
    cases e1
    refine tLc_of hsl S E e3 hz e2 fun w1 H1 L w2 H2 vs m1 hL M2 S2 hD2 r => ?_
    obtain ⟨k1, k2, k3⟩ := lc_frz m1 M2 S2 hD2 r
    exact q _ _ k1 k2 _ ((k1.env E).set k3 i)
  · cases e1
/-- .. lists that may change -/
theorem se_lcN {ifs : List Expr} {scope : Scope} {own : List (Str × Nat)} {mi : IM} {sl : List Nat} {g : GM} {t : TM} (hc : X.calm = true) (hN : X.N.Nodup) (hi : SI X G tg iter mi) (ok : blkC X.N X.env.scope scope own = true)
    (hg : ∀ (s : Shared) (H : Hp) (C : Addr) (cl : List (Str × Addr)) (fp : List Addr), SG (X.blk s H scope (compEnvC scope cl C X.env) fp) G tg sl g) (ht : ∀ (s : Shared) (H : Hp) (C : Addr) (cl : List (Str × Addr)) (fp : List Addr), STs (X.blk s H scope (compEnvC scope cl C X.env) fp) G ifs t)
    (he : ∀ (s : Shared) (H : Hp) (C : Addr) (cl : List (Str × Addr)) (fp : List Addr), SE (X.blk s H scope (compEnvC scope cl C X.env) fp) G e m) (hsl : ∀ j ∈ sl, j ∈ own.map (·.2) := by decide) (hs : ∀ x, foldedSetIterable iter X.env x = pure x := by intro _; rfl) :
    SE X G (.ListComp e [⟨tg, iter, ifs, 0⟩] scope pos) (mLcN mi g (own.map (·.2)) t m) := by
  refine ⟨(pe_lc hc hN hi.pi (blkOk_by ok) (fun s H C cl fp => (hg s H C cl fp).pg) (fun s H C cl fp => (ht s H C cl fp).pts) (fun s H C cl fp => (he s H C cl fp).pe) hs).imp fun σ H Q h => ?_⟩
  obtain ⟨w, rho, st, c, st', S, E, e, f⟩ := h
  obtain ⟨⟨its, s1⟩, e1, e⟩ := bindS e
  split at e
  · rename_i hz
    obtain ⟨⟨ys, s2⟩, e2, e⟩ := mapS e
    cases e
    refine tLc_of hsl S E e1 hz e2 fun w1 H1 D w2 H2 vs m1 hD M2 S2 hD2 r => ?_
    obtain ⟨k1, k2, k3⟩ := lc_new m1 hD M2 S2 hD2 r
    exact f _ _ _ k1 k2 k3
  · cases e
theorem ss_setLcN (i : Nat) {y : Str} {py spos : Pos} {ifs : List Expr} {scope : Scope} {own : List (Str × Nat)} {mi : IM} {sl : List Nat} {g : GM} {t : TM} (hc : X.calm = true) (hN : X.N.Nodup)
    (hi : SI X G tg iter mi) (ok : blkC X.N X.env.scope scope own = true)
    (hg : ∀ (s : Shared) (H : Hp) (C : Addr) (cl : List (Str × Addr)) (fp : List Addr), SG (X.blk s H scope (compEnvC scope cl C X.env) fp) G tg sl g) (ht : ∀ (s : Shared) (H : Hp) (C : Addr) (cl : List (Str × Addr)) (fp : List Addr), STs (X.blk s H scope (compEnvC scope cl C X.env) fp) G ifs t)
    (he : ∀ (s : Shared) (H : Hp) (C : Addr) (cl : List (Str × Addr)) (fp : List Addr), SE (X.blk s H scope (compEnvC scope cl C X.env) fp) G e m) (hy : X.N[i]? = some y := by rfl) (hyl : X.env.scope.names.lookup y = some .local := by rfl)
    (hsw : swapsWith (.ListComp e [⟨tg, iter, ifs, 0⟩] scope pos) (some (.Name y py)) spos.line X.env = pure true := by exact sw_true rfl rfl rfl (by decide +kernel)) (hsl : ∀ j ∈ sl, j ∈ own.map (·.2) := by decide) (hs : ∀ x, foldedSetIterable iter X.env x = pure x := by intro _; rfl) :
    SS X G (.Assign [.Name y py] (.ListComp e [⟨tg, iter, ifs, 0⟩] scope pos) spos) (mSet i (mLcN mi g (own.map (·.2)) t m)) := by
  refine ⟨(ps_setLc hc hN hy hyl hsw hi.pi (blkOk_by ok) (fun s H C cl fp => (hg s H C cl fp).pg) (fun s H C cl fp => (ht s H C cl fp).pts) (fun s H C cl fp => (he s H C cl fp).pe) hs).imp fun D σ H h => ?_⟩
  obtain ⟨w, rho, st, f, rho', st', S, E, e, q⟩ := h
  obtain ⟨⟨x, s1⟩, e1, e⟩ := mapS e
  cases e
  obtain ⟨⟨its, s3⟩, e3, e1⟩ := bindS e1
  split at e1
  · rename_i hz
    obtain ⟨⟨ys, s2⟩, e2, e1⟩ := mapS e1
    cases e1
    refine tLc_of hsl S E e3 hz e2 fun w1 H1 L w2 H2 vs m1 hL M2 S2 hD2 r => ?_
    obtain ⟨k1, k2, k3⟩ := lc_new m1 hL M2 S2 hD2 r
    exact q _ _ k1 k2 _ ((k1.env E).set k3 i)
  · cases e1
end
end Mini

set_option Elab.async false
set_option linter.all false
set_option maxRecDepth 100000
namespace Mini
open PySem PySem.Spec PyProof.Rows L2

section
variable {X : Cx} {G : Sit} {e a b tg iter : Expr} {es : List Expr} {m ma mb : EM} {mas : AM} {pos p : Pos} {ms ms' : SM}

/-! ### leaving a def -/
def exitV (b : Nat) (p : Vl × Store) : Option (Vl × Store) := match p.1 with
  | .d x => some (.d x, p.2.take b)
  | .r n => if n < b then some (.r n, p.2.take b) else match p.2[n]? with
    | some c => (frzC c).map fun d => (.d d, p.2.take b)
    | none => none
  | .rr _ _ => none
/-- .. its list (dict, object) may still change -/
def exitN (b : Nat) (p : Vl × Store) : Option (Vl × Store) := match p.1 with
  | .d x => some (.d x, p.2.take b)
  | .r n => if n < b then some (.r n, p.2.take b) else match p.2[n]? with
    | some c => some (.r b, p.2.take b ++ [c])
    | none => none
  | .rr _ _ => none
theorem mono_len {w w' : Wd} {H H' : Hp} {st : Store} (S : StOk G w H st) (m : Mono w w' H H') : w.io.length ≤ w'.io.length := by
  by_cases h : w.io.length = 0
  · omega
  · have hi : w.io.length - 1 < w.io.length := by omega
    have := m.ext (w.io.length - 1) _ (List.getElem?_eq_getElem hi)
    rcases this with e | e
    · have := (List.getElem?_eq_some_iff.mp e).1; omega
    · have := (List.getElem?_eq_some_iff.mp e).1; omega
theorem sub_take {w : Wd} {b : Nat} : ∀ a, a ∈ (⟨w.nu, w.io.take b⟩ : Wd).mu → a ∈ w.mu := fun a h => by
  rcases List.mem_append.mp h with h | h
  · exact List.mem_append_left _ h
  · obtain ⟨p, hp, ha⟩ := List.mem_flatten.mp h
    exact List.mem_append_right _ (List.mem_flatten.mpr ⟨p, List.mem_of_mem_take hp, ha⟩)
theorem StOk.take {w : Wd} {H : Hp} {st : Store} (S : StOk G w H st) (b : Nat) : StOk G ⟨w.nu, w.io.take b⟩ H (st.take b) ∧ Kept w.mu (⟨w.nu, w.io.take b⟩ : Wd).mu H H := by
  have k : Kept w.mu (⟨w.nu, w.io.take b⟩ : Wd).mu H H := ⟨fun _ _ h _ => h, fun a _ _ n z => n (sub_take a z)⟩
  refine ⟨⟨by rw [List.length_take, List.length_take, S.len], ?_, S.res, fun n c q h1 h2 => ?_⟩, k⟩
  · have nd := S.nd
    unfold Wd.mu at nd ⊢
    rw [← List.take_append_drop b w.io, List.flatten_append, ← List.append_assoc] at nd
    exact (List.nodup_append.mp nd).1
  · have h2' : (w.io.take b)[n]? = some q := h2
    by_cases hn : n < b
    · rw [List.getElem?_take_of_lt hn] at h1 h2'
      exact (S.cell n c q h1 h2').kept k fun _ _ => rfl
    · rw [List.getElem?_take_eq_none (by omega)] at h1
      cases h1
theorem mono_take {w w' : Wd} {H H' : Hp} {st st' : Store} (S : StOk G w H st) (m : Mono w w' H H') (S' : StOk G w' H' st') : Mono w ⟨w'.nu, w'.io.take st.length⟩ H H' := by
  obtain ⟨_, k⟩ := S'.take st.length
  refine ⟨m.toKept.trans k, m.nu, m.res, fun n p h => ?_⟩
  have hn : n < st.length := by
    rw [S.len]
    exact (List.getElem?_eq_some_iff.mp h).1
  show (w'.io.take st.length)[n]? = _ ∨ (w'.io.take st.length)[n]? = _
  rw [List.getElem?_take_of_lt hn]
  exact m.ext n p h
/-- what a thing past b holds is fixed -/
theorem frz_take {w : Wd} {H : Hp} {st : Store} (S : StOk G w H st) {b n : Nat} {c : Cell} {d : D} {v : V} (hb : b ≤ n) (hc : st[n]? = some c) (hf : frzC c = some d) (r : RepV G w H (.r n) v) : Rep G (⟨w.nu, w.io.take b⟩ : Wd).mu H d v := by
  obtain ⟨_, k⟩ := S.take b
  obtain ⟨q, hq, hv⟩ := r
  have out : ∀ a ∈ q, a ∉ (⟨w.nu, w.io.take b⟩ : Wd).mu := fun a ha z => by
    rcases List.mem_append.mp z with z | z
    · exact S.not_nu hq ha z
    · obtain ⟨p2, hp2, ha2⟩ := List.mem_flatten.mp z
      obtain ⟨j, hj, ej⟩ := List.mem_iff_getElem.mp hp2
      have hj' : j < b := by
        rw [List.length_take] at hj
        omega
      have h2 : w.io[j]? = some p2 := by
        rw [← List.getElem?_take_of_lt hj', List.getElem?_eq_getElem hj, ej]
      have := S.apart hq h2 ha ha2
      omega
  have ok := S.cell n c q hc hq
  cases c with
  | dead => cases hf
  | lst ds =>
    cases hf
    obtain ⟨a, vs, rfl, e1, r1⟩ := ok
    rw [hv a [] rfl]
    exact .lst e1 (out a (by simp)) (k.repL r1)
  | grid rs =>
    cases hf
    obtain ⟨a, bs, rfl, e1, l, q2⟩ := ok
    rw [hv a bs rfl]
    refine .lst e1 (out a (by simp)) ?_
    have all : ∀ (rs : List (List D)) (bs : List Addr), bs.length = rs.length → (∀ b ∈ bs, b ∉ (⟨w.nu, w.io.take b⟩ : Wd).mu ∨ True) → (∀ (i : Nat) (b : Addr) (ds : List D), bs[i]? = some b → rs[i]? = some ds → ∃ vs, H b = some (.lst vs) ∧ RepL G w.mu H ds vs) → (∀ x ∈ bs, x ∉ (⟨w.nu, w.io.take b⟩ : Wd).mu) →
        RepL G (⟨w.nu, w.io.take b⟩ : Wd).mu H (rs.map D.lst) (bs.map V.ref) := by
      intro rs
      induction rs with
      | nil =>
        intro bs hl _ _ _
        cases bs with
        | nil => exact .nil
        | cons b bs => simp at hl
      | cons r rs ih =>
        intro bs hl h0 q no
        cases bs with
        | nil => simp at hl
        | cons b0 bs =>
          obtain ⟨vs, e1, r1⟩ := q 0 b0 r rfl rfl
          exact .cons (.lst e1 (no b0 (by simp)) (k.repL r1)) (ih bs (by simpa using hl) (fun _ _ => .inr trivial) (fun i b ds h1 h2 => q (i + 1) b ds (by simpa using h1) (by simpa using h2)) fun x hx => no x (List.mem_cons_of_mem _ hx))
    exact all rs bs l (fun _ _ => .inr trivial) q2 fun x hx => out x (List.mem_cons_of_mem _ hx)
  | dic ks ds =>
    cases hf
    obtain ⟨a, vs, rfl, e1, l, r1⟩ := ok
    rw [hv a [] rfl]
    exact .dic e1 (out a (by simp)) l (k.repL r1)
  | obj c ns ds =>
    cases hf
    obtain ⟨a, dx, C, vs, rfl, e1, h1, l, r1⟩ := ok
    rw [hv a [] rfl]
    exact .obj e1 (out a (by simp)) h1 l (k.repL r1)
theorem exit_ok {w w' : Wd} {H H' : Hp} {st st' st2 : Store} {x y : Vl} {v : V} (S : StOk G w H st) (mm : Mono w w' H H') (S' : StOk G w' H' st') (r : RepV G w' H' x v) (h : exitV st.length (x, st') = some (y, st2)) :
    ∃ w2, Mono w w2 H H' ∧ StOk G w2 H' st2 ∧ RepV G w2 H' y v := by
  obtain ⟨S2, k⟩ := S'.take st.length
  have m2 := mono_take S mm S'
  cases x with
  | d x =>
    cases h
    exact ⟨_, m2, S2, k.rep r⟩
  | r n =>
    simp only [exitV] at h
    split at h
    · rename_i hn
      cases h
      obtain ⟨q, hq, hv⟩ := r
      exact ⟨_, m2, S2, q, by show (w'.io.take st.length)[n]? = _; rw [List.getElem?_take_of_lt hn]; exact hq, hv⟩
    · rename_i hn
      split at h
      · rename_i c hc
        obtain ⟨d, hd, e⟩ := mapS h
        cases e
        exact ⟨_, m2, S2, frz_take S' (by omega) hc hd r⟩
      · cases h
  | rr n i => cases h
theorem exitN_ok {w w' : Wd} {H H' : Hp} {st st' st2 : Store} {x y : Vl} {v : V} (S : StOk G w H st) (mm : Mono w w' H H') (S' : StOk G w' H' st') (r : RepV G w' H' x v) (h : exitN st.length (x, st') = some (y, st2)) :
    ∃ w2, Mono w w2 H H' ∧ StOk G w2 H' st2 ∧ RepV G w2 H' y v := by
  obtain ⟨S2, k⟩ := S'.take st.length
  have m2 := mono_take S mm S'
  cases x with
  | d x =>
    cases h
    exact ⟨_, m2, S2, k.rep r⟩
  | r n =>
    simp only [exitN] at h
    split at h
    · rename_i hn
      cases h
      obtain ⟨q, hq, hv⟩ := r
      exact ⟨_, m2, S2, q, by show (w'.io.take st.length)[n]? = _; rw [List.getElem?_take_of_lt hn]; exact hq, hv⟩
    · rename_i hn
      split at h
      · rename_i c hc
        cases h
        obtain ⟨q, hq, hv⟩ := r
        have hl := mono_len S mm
        have htl : (w'.io.take st.length).length = st.length := by rw [List.length_take, S.len]; omega
        -- the thing at n moves to the end
        have emu : (⟨w'.nu, w'.io.take st.length ++ [q]⟩ : Wd).mu = (⟨w'.nu, w'.io.take st.length⟩ : Wd).mu ++ q := by unfold Wd.mu; simp [List.flatten_append]
        have sub : ∀ z, z ∈ (⟨w'.nu, w'.io.take st.length ++ [q]⟩ : Wd).mu → z ∈ w'.mu := fun z hz => by
          rw [emu] at hz
          rcases List.mem_append.mp hz with hz | hz
          · exact sub_take z hz
          · exact StOk.in_mu hq hz
        have k3 : Kept w'.mu (⟨w'.nu, w'.io.take st.length ++ [q]⟩ : Wd).mu H' H' := ⟨fun _ _ h _ => h, fun z _ _ n hz => n (sub z hz)⟩
        refine ⟨⟨w'.nu, w'.io.take st.length ++ [q]⟩, ⟨mm.toKept.trans k3, mm.nu, mm.res, fun j p hp => ?_⟩, ⟨?_, ?_, S'.res, fun j d p h1 h2 => ?_⟩, q, ?_, hv⟩
        · have hj : j < st.length := by rw [S.len]; exact (List.getElem?_eq_some_iff.mp hp).1
          show (w'.io.take st.length ++ [q])[j]? = _ ∨ (w'.io.take st.length ++ [q])[j]? = _
          rw [List.getElem?_append_left (by omega), List.getElem?_take_of_lt hj]
          exact mm.ext j p hp
        · show (st'.take st.length ++ [c]).length = (w'.io.take st.length ++ [q]).length
          rw [List.length_append, List.length_append, S2.len]
          rfl
        · rw [emu]
          refine List.nodup_append.mpr ⟨S2.nd, ?_, fun z hz y hy => ?_⟩
          · have h1 := (List.nodup_append.mp S'.nd).2.1
            exact (List.pairwise_flatten.mp h1).1 q (List.mem_of_getElem? hq)
          · intro e
            subst e
            rcases List.mem_append.mp hz with hz | hz
            · exact S'.not_nu hq hy hz
            · obtain ⟨p2, hp2, ha2⟩ := List.mem_flatten.mp hz
              obtain ⟨j, hj, ej⟩ := List.mem_iff_getElem.mp hp2
              have hj' : j < st.length := by rw [← htl]; exact hj
              have h2 : w'.io[j]? = some p2 := by
                rw [← List.getElem?_take_of_lt hj', List.getElem?_eq_getElem hj, ej]
              have := S'.apart hq h2 hy ha2
              omega
        · have h2' : (w'.io.take st.length ++ [q])[j]? = some p := h2
          by_cases hj : j < st.length
          · rw [List.getElem?_append_left (by omega), List.getElem?_take_of_lt hj] at h2'
            have hjl : j < (st'.take st.length).length := by rw [S2.len]; show j < (w'.io.take st.length).length; rw [htl]; exact hj
            rw [List.getElem?_append_left hjl, List.getElem?_take_of_lt hj] at h1
            exact (S'.cell j d p h1 h2').kept k3 fun _ _ => rfl
          · have hj2 : j = st.length := by
              have := (List.getElem?_eq_some_iff.mp h2').1
              rw [List.length_append, htl, List.length_singleton] at this
              omega
            subst hj2
            rw [List.getElem?_append_right (by omega), htl, Nat.sub_self] at h2'
            have e2 : q = p := by simpa using h2'
            subst e2
            have hl2 : (st'.take st.length).length = st.length := by rw [S2.len]; exact htl
            rw [List.getElem?_append_right (by omega), hl2, Nat.sub_self] at h1
            have e3 : c = d := by simpa using h1
            subst e3
            exact (S'.cell n c q hc hq).kept k3 fun _ _ => rfl
        · show (w'.io.take st.length ++ [q])[st.length]? = _
          rw [List.getElem?_append_right (by omega), htl, Nat.sub_self]
          rfl
      · cases h
  | rr n i => cases h

/-! ### a def's promise, its calls -/
abbrev FM := Store → List Vl → Option (Vl × Store)
def spOf (G : Sit) (n : Nat) (cf : FM) : Sp := fun vs H Q _ => ∃ w st as c st', StOk G w H st ∧ RepVs G w H as vs ∧ as.length = n ∧ cf st as = some (c, st') ∧ Fin G w H c st' Q
theorem RepVs.length {w : Wd} {H : Hp} {xs : List Vl} {vs : List V} (r : RepVs G w H xs vs) : xs.length = vs.length := Paired.length r
def mCall (n : Nat) (cf : FM) (ma : AM) : EM := fun rho st => (ma rho st).bind fun p => if p.1.length = n then (cf p.2 p.1).bind (exitV p.2.length) else none
def mCallN (n : Nat) (cf : FM) (ma : AM) : EM := fun rho st => (ma rho st).bind fun p => if p.1.length = n then (cf p.2 p.1).bind (exitN p.2.length) else none
theorem se_call {k n : Nat} {f : Addr} {fd : FuncData} {x : Str} {ps : List Str} {cf : FM} (F : FnOk X.prog X.w X.K X.mg X.base CX0 k f fd ps (spOf G n cf)) (hr : Room k X.A) (hm : X.mg x = some (.ref f)) (hk : PySem.W.keepIn X.K (.ref f) = true) (hb : Binds X.K fd ps [])
    (ha : SA X G (e :: es) mas) (hg : Gl X x := by rfl) (hdb : (x == ("__debug__" : Str)) = false := by decide) (he : starEach (e :: es) X.env = (false, eval e X.env) :: starEach es X.env := by rfl) (hpl : (backTo pos (starEach es X.env)).any (·.1) = false := by rfl) :
    SE X G (.Call (.Name x p) (e :: es) [] pos) (mCall n cf mas) := by
  refine ⟨(pe_call F hr hg hm hk hb .nil pass0 ha.pa hdb he hpl).imp fun σ H Q h => ?_⟩
  obtain ⟨w, rho, st, c, st', S, E, e, q⟩ := h
  obtain ⟨⟨xs, s1⟩, e1, e⟩ := bindS e
  split at e
  · rename_i hn
    obtain ⟨⟨y, s2⟩, e2, e⟩ := bindS e
    refine ⟨w, rho, st, xs, s1, S, E, e1, fun w1 H1 vs m1 S1 r1 => ?_⟩
    show spOf G n cf (vs ++ []) H1 Q E0
    rw [List.append_nil]
    refine ⟨w1, s1, xs, y, s2, S1, r1, hn, e2, fun w2 H2 v m2 S2 r2 => ?_⟩
    obtain ⟨w3, m3, S3, r3⟩ := exit_ok S1 m2 S2 r2 e
    exact q w3 H2 v (m1.trans m3) S3 r3
  · cases e
theorem se_callN {k n : Nat} {f : Addr} {fd : FuncData} {x : Str} {ps : List Str} {cf : FM} (F : FnOk X.prog X.w X.K X.mg X.base CX0 k f fd ps (spOf G n cf)) (hr : Room k X.A) (hm : X.mg x = some (.ref f)) (hk : PySem.W.keepIn X.K (.ref f) = true) (hb : Binds X.K fd ps [])
    (ha : SA X G (e :: es) mas) (hg : Gl X x := by rfl) (hdb : (x == ("__debug__" : Str)) = false := by decide) (he : starEach (e :: es) X.env = (false, eval e X.env) :: starEach es X.env := by rfl) (hpl : (backTo pos (starEach es X.env)).any (·.1) = false := by rfl) :
    SE X G (.Call (.Name x p) (e :: es) [] pos) (mCallN n cf mas) := by
  refine ⟨(pe_call F hr hg hm hk hb .nil pass0 ha.pa hdb he hpl).imp fun σ H Q h => ?_⟩
  obtain ⟨w, rho, st, c, st', S, E, e, q⟩ := h
  obtain ⟨⟨xs, s1⟩, e1, e⟩ := bindS e
  split at e
  · rename_i hn
    obtain ⟨⟨y, s2⟩, e2, e⟩ := bindS e
    refine ⟨w, rho, st, xs, s1, S, E, e1, fun w1 H1 vs m1 S1 r1 => ?_⟩
    show spOf G n cf (vs ++ []) H1 Q E0
    rw [List.append_nil]
    refine ⟨w1, s1, xs, y, s2, S1, r1, hn, e2, fun w2 H2 v m2 S2 r2 => ?_⟩
    obtain ⟨w3, m3, S3, r3⟩ := exitN_ok S1 m2 S2 r2 e
    exact q w3 H2 v (m1.trans m3) S3 r3
  · cases e
/-- C(..): a new object of the class c, made by its __init__ -/
def mMake (c n : Nat) (cf : FM) (ma : AM) : EM := fun rho st => (ma rho st).bind fun p => if p.1.length + 1 = n then (cf (p.2 ++ [.obj c [] []]) (.r p.2.length :: p.1)).bind fun q => match q.1 with
  | .d .non => exitV p.2.length (.r p.2.length, q.2)
  | _ => none else none
theorem se_make {k c n : Nat} {C f : Addr} {fd : FuncData} {x : Str} {ps : List Str} {cf : FM} (M : Mk X.K C f) (F : FnOk X.prog X.w X.K X.mg X.base CX0 k f fd ps (spOf G n cf)) (hC : G.cls c = some C) (hr : Room (k + 1) X.A) (hm : X.mg x = some (.ref C)) (hb : Binds X.K fd ps [])
    (ha : SA X G (e :: es) mas) (hg : Gl X x := by rfl) (hdb : (x == ("__debug__" : Str)) = false := by decide) (he : starEach (e :: es) X.env = (false, eval e X.env) :: starEach es X.env := by rfl) (hpl : (backTo pos (starEach es X.env)).any (·.1) = false := by rfl) :
    SE X G (.Call (.Name x p) (e :: es) [] pos) (mMake c n cf mas) := by
  refine ⟨(pe_make M F hr hg hm hb .nil pass0 ha.pa hdb he hpl).imp fun σ H Q h => ?_⟩
  obtain ⟨w, rho, st, c1, st', S, E, e, q⟩ := h
  obtain ⟨⟨xs, s1⟩, e1, e⟩ := bindS e
  split at e
  · rename_i hn
    obtain ⟨⟨y, s2⟩, e2, e⟩ := bindS e
    refine ⟨w, rho, st, xs, s1, S, E, e1, fun w1 H1 vs m1 S1 r1 x dx hx hdx hne => ?_⟩
    rw [List.append_nil]
    obtain ⟨ma1, Sa, na⟩ := Mono.fresh (o := .own x) S1 hdx
    have hx' : (upd H1 dx (.own x)) x = none := by rw [upd_ne (Ne.symm hne)]; exact hx
    obtain ⟨mb1, Sb⟩ := Mono.alloc (o := .ins C dx []) Sa hx' (c := .obj c [] []) fun mu' _ k => ⟨x, dx, C, [], rfl, by rw [upd_same]; rfl, hC, rfl, .nil⟩
    have m2 := ma1.trans mb1
    have rx : RepV G ⟨w1.nu, w1.io ++ [[x]]⟩ (upd (upd H1 dx (.own x)) x (.ins C dx [])) (.r s1.length) (.ref x) := by
      refine ⟨[x], ?_, fun a q z => by cases z; rfl⟩
      show (w1.io ++ [[x]])[s1.length]? = _
      rw [S1.len, List.getElem?_append_right (Nat.le_refl _)]
      simp
    refine ⟨_, s1 ++ [.obj c [] []], .r s1.length :: xs, y, s2, Sb, .cons rx (m2.repVs r1), by rw [List.length_cons]; exact hn, e2, fun w3 H3 v m3 S3 r3 => ?_⟩
    simp only at e
    split at e
    · cases r3
      refine ⟨rfl, ?_⟩
      obtain ⟨w4, m4, S4, r4⟩ := exit_ok S1 (m2.trans m3) S3 (m3.repV rx) e
      exact q w4 H3 _ (m1.trans m4) S4 r4
    · cases e
  · cases e
/-- o.f = e, o an object that is being made -/
def putN : List Str → List D → Str → D → List Str × List D
  | g :: ns, x :: ds, f, d => if g = f then (g :: ns, d :: ds) else (g :: (putN ns ds f d).1, x :: (putN ns ds f d).2)
  | ns, _, f, d => (ns ++ [f], [d])
theorem putN_rep {mu : List Addr} {H : Hp} {f : Str} {d : D} {v : V} (rv : Rep G mu H d v) : ∀ {ns : List Str} {ds : List D} {vs : List V}, ns.length = vs.length → RepL G mu H ds vs →
    ∃ vs', putF f v (ns.zip vs) = (putN ns ds f d).1.zip vs' ∧ (putN ns ds f d).1.length = vs'.length ∧ RepL G mu H (putN ns ds f d).2 vs'
  | [], _, _, l, .nil => ⟨[v], rfl, rfl, .cons rv .nil⟩
  | [], _, _, l, .cons _ _ => by simp at l
  | g :: ns, _, _, l, .nil => by simp at l
  | g :: ns, x :: ds, v0 :: vs, l, .cons r1 r2 => by
    by_cases e : g = f
    · refine ⟨v :: vs, ?_, ?_, ?_⟩
      · simp [putF, putN, e]
      · simp [putN, e]; simpa using l
      · simp only [putN, if_pos e]; exact .cons rv r2
    · obtain ⟨vs', h1, h2, h3⟩ := putN_rep (f := f) rv (ns := ns) (by simpa using l) r2
      refine ⟨v0 :: vs', ?_, ?_, ?_⟩
      · simp [putF, putN, e, h1]
      · simp [putN, e, h2]
      · simp only [putN, if_neg e]; exact .cons r1 h3
def mSetF (f : Str) (mo mv : EM) : SM := fun rho st => (mv rho st).bind fun p => (mo rho p.2).bind fun q => match q.1, p.1 with
  | .r n, .d y => match q.2[n]? with
    | some (.obj c ns ds) => if ns.length < 1000 then some (.nx, rho, q.2.set n (.obj c (putN ns ds f y).1 (putN ns ds f y).2)) else none
    | _ => none
  | _, _ => none
theorem ss_setF {f : Str} {o value : Expr} {pos' : Pos} (hc : ∀ c C, G.cls c = some C → Cls X.K C) (hf : ∀ c C, G.cls c = some C → NoAttr X.K C f) (ho : SE X G o ma) (hv : SE X G value mb) (hs : swapsWith value (some (.Attribute o f pos')) pos.line X.env = pure false := by rfl) :
    SS X G (.Assign [.Attribute o f pos'] value pos) (mSetF f ma mb) := by
  refine ⟨(ps_fld ho.pe hv.pe hs).imp fun D σ H h => ?_⟩
  obtain ⟨w, rho, st, fl, rho', st', S, E, e, q⟩ := h
  obtain ⟨⟨y, s1⟩, e1, e⟩ := bindS e
  obtain ⟨⟨x, s2⟩, e2, e⟩ := bindS e
  refine ⟨w, rho, st, y, s1, S, E, e1, fun w1 H1 v1 m1 S1 r1 => ⟨w1, rho, s1, x, s2, S1, m1.env E, e2, fun w2 H2 v2 m2 S2 r2 => ?_⟩⟩
  simp only at e
  split at e
  · rename_i n d
    split at e
    · rename_i c ns ds hcell
      split at e
      · rename_i hlt
        cases e
        obtain ⟨p1, hp1, hv1⟩ := r2
        obtain ⟨a, dx, C, vs, rfl, h1, h2, h3, h4⟩ := S2.cell _ _ p1 hcell hp1
        have rd : Rep G w2.mu H2 _ v1 := m2.toKept.rep r1
        obtain ⟨vs', g1, g2, g3⟩ := putN_rep rd h3 h4
        refine ⟨a, C, dx, _, hv1 a [] rfl, h1, hc _ _ h2, hf _ _ h2, by rw [List.length_zip]; omega, ?_⟩
        rw [g1]
        obtain ⟨m3, S3⟩ := Mono.write (o := .ins C dx ((putN ns ds f _).1.zip vs')) S2 hp1 (by simp) (c := .obj c (putN ns ds f _).1 (putN ns ds f _).2) fun k => ⟨a, dx, C, vs', rfl, upd_same, h2, g2, k.repL g3⟩
        exact q _ _ ((m1.trans m2).trans m3) S3 σ (m3.env (m2.env (m1.env E)))
      · cases e
    · cases e
  · cases e

/-! ### a def by its body -/
def runD (n : Nat) (ms : SM) : FM := fun st as => (ms (as.map some ++ List.replicate (n - as.length) none) st).bind fun p => match p.1 with
  | .rt x => some (x, p.2.2)
  | .nx => some (.d .non, p.2.2)
  | _ => none
theorem env_start {w : Wd} {H : Hp} {as : List Vl} {vs : List V} {N : List Str} (r : RepVs G w H as vs) : EnvOk G w H (L2.start N vs) (as.map some ++ List.replicate (N.length - as.length) none) := by
  have hl := RepVs.length r
  refine ⟨by unfold L2.start; simp [hl], fun i x h => ?_⟩
  unfold L2.start
  by_cases hi : i < as.length
  · rw [List.getElem?_append_left (by simpa using hi), List.getElem?_map] at h
    rw [List.getElem?_append_left (by rw [List.length_map, ← hl]; exact hi), List.getElem?_map]
    obtain ⟨y, hy, e⟩ := mapS h
    cases e
    have get : ∀ {xs : List Vl} {vs : List V} {i : Nat} {x : Vl}, RepVs G w H xs vs → xs[i]? = some x → ∃ v, vs[i]? = some v ∧ RepV G w H x v := by
      intro xs vs i x r
      induction r generalizing i with
      | nil => intro e; simp at e
      | cons r1 _ ih =>
        intro e
        cases i with
        | zero => simp at e; subst e; exact ⟨_, rfl, r1⟩
        | succ i =>
          obtain ⟨v, h1, h2⟩ := ih (by simpa using e)
          exact ⟨v, by simpa using h1, h2⟩
    obtain ⟨v, hv, rv⟩ := get r hy
    exact ⟨v, by rw [hv]; rfl, rv⟩
  · rw [List.getElem?_append_right (by simpa using hi), List.getElem?_replicate] at h
    split at h <;> cases h
theorem fn_run {P : Program} {w0 : World} {K : PySem.W.Frag} {mg : Str → Option Value} {base : Heap} {x qual : Str} {st : Stmt} {f : Addr} {fd : FuncData} {N ps : List Str} {k : Nat} (F : Fun K x qual st f fd) (S : FnScope N ps (defScope st))
    (hb : ∀ (cdv : Value) (A : Around) (outer : List Env) (s : Shared) (H : Hp) (E : XK), Room k (A.deeper (envOfC qual (defScope st) s.heap.objs.size f cdv)) → SSs (cxOf CX0 P w0 K mg base N qual (defScope st) f cdv A outer s H E).nox G (defBody st) ms) :
    FnOk P w0 K mg base CX0 (k + 1) f fd ps (spOf G ps.length (runD N.length ms)) := by
  refine F.ok S (fun vs H Q E h => ?_) fun cdv A outer s H vs Q E hr h => ⟨_, (hb cdv A outer s H E hr).pss, ?_⟩
  · obtain ⟨w, st, as, c, st', _, r, hl, _⟩ := h
    rw [← RepVs.length r, hl]
  · obtain ⟨w, st, as, c, st', S, r, hl, e, q⟩ := h
    obtain ⟨⟨fl, rho', s2⟩, e1, e⟩ := bindS e
    refine ⟨w, _, st, fl, rho', s2, S, env_start r, e1, fun w' H' m S' => ?_⟩
    cases fl with
    | nx =>
      cases e
      exact fun σ' _ => q w' H' _ m S' .non
    | rt x =>
      cases e
      exact fun v rv => q w' H' v m S' rv
    | bk => cases e
    | ct => cases e
end
end Mini

set_option Elab.async false
set_option linter.all false
set_option maxRecDepth 100000
namespace Mini
open PySem PySem.Spec PyProof.Rows L2

section
variable {X : Cx} {G : Sit} {e a b tg iter o : Expr} {es : List Expr} {m ma mb mo : EM} {mas : AM} {pos p : Pos} {ms ms' : SM} {x : Str}

/-! ### built-in functions -/
def rVs (G : Sit) (g : FM) : List V → Hp → VK → Prop := fun xs H Q => ∃ w st as c st', StOk G w H st ∧ RepVs G w H as xs ∧ g st as = some (c, st') ∧ Fin G w H c st' Q
def mBi (g : FM) (ma : AM) : EM := fun rho st => (ma rho st).bind fun p => g p.2 p.1
theorem tCB_of {r : List V → Hp → VK → Prop} {g : FM} (hr : ∀ xs H Q, rVs G g xs H Q → r xs H Q) {σ : L2.St} {H : Hp} {Q : VK} (h : tE G (mBi g mas) σ H Q) : tCB r (tA G mas) σ H Q := by
  obtain ⟨w, rho, st, c, st', S, E, e, q⟩ := h
  obtain ⟨⟨xs, s1⟩, e1, e⟩ := bindS e
  exact ⟨w, rho, st, xs, s1, S, E, e1, fun w1 H1 vs m1 S1 r1 => hr _ _ _ ⟨w1, s1, xs, c, st', S1, r1, e, q.from m1⟩⟩
theorem se_bi {id : String} {g : FM} (hc : CallR X (.builtin id) (rVs G g)) (hm : X.mg x = none) (hv : bootBuiltins x = some (.builtin id)) (ha : SA X G (e :: es) mas) (hg : Gl X x := by rfl) (hn : x ≠ "__name__" := by decide) (hdb : (x == ("__debug__" : Str)) = false := by decide)
    (he : starEach (e :: es) X.env = (false, eval e X.env) :: starEach es X.env := by rfl) (hpl : (backTo pos (starEach es X.env)).any (·.1) = false := by rfl) : SE X G (.Call (.Name x p) (e :: es) [] pos) (mBi g mas) :=
  ⟨(pe_callB hc hg hm hv ha.pa hn hdb he hpl).imp fun _ _ _ h => tCB_of (fun _ _ _ q => q) h⟩
theorem se_bt {T : String} {g : FM} (hc : CallR X (.type T) (rVs G g)) (hm : X.mg x = none) (hv : bootBuiltins x = some (.type T)) (ha : SA X G (e :: es) mas) (hg : Gl X x := by rfl) (hn : x ≠ "__name__" := by decide) (hdb : (x == ("__debug__" : Str)) = false := by decide)
    (he : starEach (e :: es) X.env = (false, eval e X.env) :: starEach es X.env := by rfl) (hpl : (backTo pos (starEach es X.env)).any (·.1) = false := by rfl) : SE X G (.Call (.Name x p) (e :: es) [] pos) (mBi g mas) :=
  ⟨(pe_callTy hc hg hm hv ha.pa hn hdb he hpl).imp fun _ _ _ h => tCB_of (fun _ _ _ q => q) h⟩
theorem rep1 {w : Wd} {H : Hp} {x : Vl} {vs : List V} (r : RepVs G w H [x] vs) : ∃ v, vs = [v] ∧ RepV G w H x v := by
  cases r with
  | cons r1 r2 => cases r2; exact ⟨_, rfl, r1⟩
theorem rep2 {w : Wd} {H : Hp} {x y : Vl} {vs : List V} (r : RepVs G w H [x, y] vs) : ∃ v u, vs = [v, u] ∧ RepV G w H x v ∧ RepV G w H y u := by
  cases r with
  | cons r1 r2 =>
    obtain ⟨u, rfl, r3⟩ := rep1 r2
    exact ⟨_, _, rfl, r1, r3⟩
/-- a value computed of one argument, the store as it is -/
def one (g : Store → Vl → Option Vl) : FM := fun st as => match as with
  | [a] => (g st a).map fun c => (c, st)
  | _ => none
def two (g : Store → Vl → Vl → Option Vl) : FM := fun st as => match as with
  | [a, b] => (g st a b).map fun c => (c, st)
  | _ => none
theorem call_one {f : Value} {g : Store → Vl → Option Vl} {r : List V → Hp → VK → Prop} (h : CallR X f r) (hi : ∀ (w : Wd) (H : Hp) (st : Store) (a c : Vl) (v : V) (Q : VK), StOk G w H st → RepV G w H a v → g st a = some c → Fin G w H c st Q → r [v] H Q) : CallR X f (rVs G (one g)) := by
  refine CallR.imp h fun xs H Q q => ?_
  obtain ⟨w, st, as, c, st', S, r, e, q⟩ := q
  unfold one at e
  split at e
  · obtain ⟨d, e1, e2⟩ := mapS e
    cases e2
    obtain ⟨v, rfl, r1⟩ := rep1 r
    exact hi w H _ _ _ v Q S r1 e1 q
  · cases e
theorem call_two {f : Value} {g : Store → Vl → Vl → Option Vl} {r : List V → Hp → VK → Prop} (h : CallR X f r) (hi : ∀ (w : Wd) (H : Hp) (st : Store) (a b c : Vl) (v u : V) (Q : VK), StOk G w H st → RepV G w H a v → RepV G w H b u → g st a b = some c → Fin G w H c st Q → r [v, u] H Q) : CallR X f (rVs G (two g)) := by
  refine CallR.imp h fun xs H Q q => ?_
  obtain ⟨w, st, as, c, st', S, r, e, q⟩ := q
  unfold two at e
  split at e
  · obtain ⟨d, e1, e2⟩ := mapS e
    cases e2
    obtain ⟨v, u, rfl, r1, r2⟩ := rep2 r
    exact hi w H _ _ _ _ v u Q S r1 r2 e1 q
  · cases e
def absV1 (_ : Store) : Vl → Option Vl
  | .d (.int i) => some (.d (.int (if i < 0 then -i else i)))
  | _ => none
theorem bi_abs : CallR X (.builtin "abs") (rVs G (one absV1)) := call_one call_abs fun w H st a c v Q S r e q => by
  unfold absV1 at e
  split at e
  · cases e; cases r; exact ⟨_, rfl, q.now S (.int _)⟩
  · cases e
def intV1 (_ : Store) : Vl → Option Vl
  | .d (.int i) => some (.d (.int i))
  | .d (.bl k) => some (.d (.int (if k then 1 else 0)))
  | _ => none
theorem bt_int : CallR X (.type "int") (rVs G (one intV1)) := call_one call_int1 fun w H st a c v Q S r e q => by
  unfold intV1 at e
  split at e
  · cases e; cases r; exact .inl ⟨_, rfl, q.now S (.int _)⟩
  · cases e; cases r; exact .inr ⟨_, rfl, q.now S (.int _)⟩
  · cases e
def lenV1 (st : Store) : Vl → Option Vl
  | .r n => match st[n]? with
    | some (.lst ds) => some (.d (.int (ds.length : Nat)))
    | some (.grid rs) => some (.d (.int (rs.length : Nat)))
    | _ => none
  | x => (seqOf st x).map fun ds => .d (.int (ds.length : Nat))
theorem bi_len : CallR X (.builtin "len") (rVs G (one lenV1)) := call_one call_len_seq fun w H st a c v Q S r e q => by
  unfold lenV1 at e
  split at e
  · obtain ⟨p, hp, hv⟩ := r
    split at e
    · rename_i hc
      cases e
      obtain ⟨a, vs, rfl, e1, r1⟩ := S.cell _ _ p hc hp
      exact ⟨a, vs, by rw [hv a [] rfl], .inl (SqL.of e1), by rw [← r1.length]; exact q.now S (.int _)⟩
    · rename_i hc
      cases e
      obtain ⟨a, bs, rfl, e1, l, _⟩ := S.cell _ _ p hc hp
      exact ⟨a, _, by rw [hv a bs rfl], .inl (SqL.of e1), by rw [List.length_map, l]; exact q.now S (.int _)⟩
    · cases e
  · obtain ⟨ds, h1, h2⟩ := mapS e
    cases h2
    obtain ⟨p, vs, rfl, k1, k2⟩ := seqOf_ok (K := X.K) S r h1
    exact ⟨p, vs, rfl, k1, by rw [← k2.length]; exact q.now S (.int _)⟩
/-- all flags -/
def blsOf : List D → Option (List Bool)
  | [] => some []
  | .bl b :: ds => (blsOf ds).map (b :: ·)
  | _ :: _ => none
theorem blsOf_eq : ∀ {ds : List D} {bs : List Bool}, blsOf ds = some bs → ds = bs.map D.bl
  | [], _, h => by cases h; rfl
  | .bl i :: ds, bs, h => by
    obtain ⟨cs, h1, h2⟩ := mapS h
    subst h2
    rw [blsOf_eq h1]
    rfl
  | .non :: _, _, h | .int _ :: _, _, h | .str _ :: _, _, h | .tup _ :: _, _, h | .lst _ :: _, _, h | .dic _ _ :: _, _, h | .obj _ _ _ :: _, _, h | .scr _ :: _, _, h => by cases h
theorem blsOf_map : ∀ (ns : List Bool), blsOf (ns.map D.bl) = some ns
  | [] => rfl
  | n :: ns => by
    show (blsOf (ns.map D.bl)).map (n :: ·) = _
    rw [blsOf_map ns]
    rfl
def allV1 (st : Store) (x : Vl) : Option Vl := (lstOf st x).bind fun ds => (blsOf ds).map fun bs => .d (.bl (bs.all id))
def anyV1 (st : Store) (x : Vl) : Option Vl := (lstOf st x).bind fun ds => (blsOf ds).map fun bs => .d (.bl (bs.any id))
theorem bi_all (hc : X.calm = true) : CallR X (.builtin "all") (rVs G (one allV1)) := call_one (cr_all hc) fun w H st a c v Q S r e q => by
  obtain ⟨ds, h1, h2⟩ := bindS e
  obtain ⟨bs, h3, h4⟩ := mapS h2
  cases h4
  obtain ⟨p, vs, rfl, k1, k2⟩ := lstOf_ok S r h1
  rw [blsOf_eq h3] at k2
  rw [k2.bls] at k1
  exact ⟨p, bs, rfl, SqL.of k1, q.now S (.bl _)⟩
theorem bi_any (hc : X.calm = true) : CallR X (.builtin "any") (rVs G (one anyV1)) := call_one (cr_any hc) fun w H st a c v Q S r e q => by
  obtain ⟨ds, h1, h2⟩ := bindS e
  obtain ⟨bs, h3, h4⟩ := mapS h2
  cases h4
  obtain ⟨p, vs, rfl, k1, k2⟩ := lstOf_ok S r h1
  rw [blsOf_eq h3] at k2
  rw [k2.bls] at k1
  exact ⟨p, bs, rfl, SqL.of k1, q.now S (.bl _)⟩
def sumV1 (st : Store) (x : Vl) : Option Vl := (lstOf st x).bind fun ds => (intsOf ds).map fun ns => .d (.int ns.sum)
theorem bi_sum (hc : X.calm = true) : CallR X (.builtin "sum") (rVs G (one sumV1)) := call_one (cr_sum hc) fun w H st a c v Q S r e q => by
  obtain ⟨ds, h1, h2⟩ := bindS e
  obtain ⟨ns, h3, h4⟩ := mapS h2
  cases h4
  obtain ⟨p, vs, rfl, k1, k2⟩ := lstOf_ok S r h1
  rw [intsOf_eq h3] at k2
  rw [k2.ints] at k1
  exact ⟨p, ns, rfl, SqL.of k1, q.now S (.int _)⟩
/-- the least, the greatest -/
def minL : Int → List Int → Int
  | n, [] => n
  | n, m :: ms => minL (if m < n then m else n) ms
def maxL : Int → List Int → Int
  | n, [] => n
  | n, m :: ms => maxL (if n < m then m else n) ms
theorem minL_le : ∀ (ns : List Int) (n : Int), minL n ns ≤ n ∧ (∀ m ∈ ns, minL n ns ≤ m) ∧ (minL n ns = n ∨ minL n ns ∈ ns)
  | [], n => ⟨Int.le_refl _, fun _ h => by simp at h, .inl rfl⟩
  | k :: ns, n => by
    obtain ⟨h1, h2, h3⟩ := minL_le ns (if k < n then k else n)
    unfold minL
    by_cases hk : k < n
    · rw [if_pos hk] at h1 h2 h3 ⊢
      refine ⟨by omega, fun m hm => ?_, ?_⟩
      · rcases List.mem_cons.mp hm with rfl | hm
        · exact h1
        · exact h2 m hm
      · rcases h3 with h3 | h3
        · exact .inr (by rw [h3]; exact List.mem_cons_self)
        · exact .inr (List.mem_cons_of_mem _ h3)
    · rw [if_neg hk] at h1 h2 h3 ⊢
      refine ⟨h1, fun m hm => ?_, ?_⟩
      · rcases List.mem_cons.mp hm with rfl | hm
        · omega
        · exact h2 m hm
      · rcases h3 with h3 | h3
        · exact .inl h3
        · exact .inr (List.mem_cons_of_mem _ h3)
theorem maxL_le : ∀ (ns : List Int) (n : Int), n ≤ maxL n ns ∧ (∀ m ∈ ns, m ≤ maxL n ns) ∧ (maxL n ns = n ∨ maxL n ns ∈ ns)
  | [], n => ⟨Int.le_refl _, fun _ h => by simp at h, .inl rfl⟩
  | k :: ns, n => by
    obtain ⟨h1, h2, h3⟩ := maxL_le ns (if n < k then k else n)
    unfold maxL
    by_cases hk : n < k
    · rw [if_pos hk] at h1 h2 h3 ⊢
      refine ⟨by omega, fun m hm => ?_, ?_⟩
      · rcases List.mem_cons.mp hm with rfl | hm
        · exact h1
        · exact h2 m hm
      · rcases h3 with h3 | h3
        · exact .inr (by rw [h3]; exact List.mem_cons_self)
        · exact .inr (List.mem_cons_of_mem _ h3)
    · rw [if_neg hk] at h1 h2 h3 ⊢
      refine ⟨h1, fun m hm => ?_, ?_⟩
      · rcases List.mem_cons.mp hm with rfl | hm
        · omega
        · exact h2 m hm
      · rcases h3 with h3 | h3
        · exact .inl h3
        · exact .inr (List.mem_cons_of_mem _ h3)
def minV1 (st : Store) (x : Vl) : Option Vl := (lstOf st x).bind fun ds => match intsOf ds with
  | some (n :: ns) => some (.d (.int (minL n ns)))
  | _ => none
def maxV1 (st : Store) (x : Vl) : Option Vl := (lstOf st x).bind fun ds => match intsOf ds with
  | some (n :: ns) => some (.d (.int (maxL n ns)))
  | _ => none
theorem bi_min (hc : X.calm = true) : CallR X (.builtin "min") (rVs G (one minV1)) := call_one (cr_min hc) fun w H st a c v Q S r e q => by
  obtain ⟨ds, h1, h2⟩ := bindS e
  split at h2
  · rename_i n ns h3
    cases h2
    obtain ⟨p, vs, rfl, k1, k2⟩ := lstOf_ok S r h1
    rw [intsOf_eq h3] at k2
    rw [k2.ints] at k1
    refine ⟨p, n :: ns, rfl, SqL.of k1, by simp, fun m hm hle => ?_⟩
    obtain ⟨g1, g2, g3⟩ := minL_le ns n
    have e1 : m ≤ minL n ns := hle _ (by rcases g3 with g3 | g3; rw [g3]; exact List.mem_cons_self; exact List.mem_cons_of_mem _ g3)
    have e2 : minL n ns ≤ m := by
      rcases List.mem_cons.mp hm with rfl | hm
      · exact g1
      · exact g2 m hm
    have : m = minL n ns := by omega
    rw [this]
    exact q.now S (.int _)
  · cases h2
theorem bi_max (hc : X.calm = true) : CallR X (.builtin "max") (rVs G (one maxV1)) := call_one (cr_max hc) fun w H st a c v Q S r e q => by
  obtain ⟨ds, h1, h2⟩ := bindS e
  split at h2
  · rename_i n ns h3
    cases h2
    obtain ⟨p, vs, rfl, k1, k2⟩ := lstOf_ok S r h1
    rw [intsOf_eq h3] at k2
    rw [k2.ints] at k1
    refine ⟨p, n :: ns, rfl, SqL.of k1, by simp, fun m hm hle => ?_⟩
    obtain ⟨g1, g2, g3⟩ := maxL_le ns n
    have e1 : maxL n ns ≤ m := hle _ (by rcases g3 with g3 | g3; rw [g3]; exact List.mem_cons_self; exact List.mem_cons_of_mem _ g3)
    have e2 : m ≤ maxL n ns := by
      rcases List.mem_cons.mp hm with rfl | hm
      · exact g1
      · exact g2 m hm
    have : m = maxL n ns := by omega
    rw [this]
    exact q.now S (.int _)
  · cases h2
def maxV2 (_ : Store) (a b : Vl) : Option Vl := match a, b with
  | .d (.int i), .d (.int j) => some (.d (.int (if j > i then j else i)))
  | _, _ => none
def minV2 (_ : Store) (a b : Vl) : Option Vl := match a, b with
  | .d (.int i), .d (.int j) => some (.d (.int (if j < i then j else i)))
  | _, _ => none
theorem bi_max2 (hc : X.calm = true) : CallR X (.builtin "max") (rVs G (two maxV2)) := call_two (call_max2 hc) fun w H st a b c v u Q S r r' e q => by
  unfold maxV2 at e
  split at e
  · cases e; cases r; cases r'; exact ⟨_, _, rfl, q.now S (.int _)⟩
  · cases e
theorem bi_min2 (hc : X.calm = true) : CallR X (.builtin "min") (rVs G (two minV2)) := call_two (call_min2 hc) fun w H st a b c v u Q S r r' e q => by
  unfold minV2 at e
  split at e
  · cases e; cases r; cases r'; exact ⟨_, _, rfl, q.now S (.int _)⟩
  · cases e
/-- tuple(x) -/
def tupV1 (st : Store) : Vl → Option Vl
  | .d (.tup ds) => some (.d (.tup ds))
  | x => (lstOf st x).map fun ds => .d (.tup ds)
theorem call_tupF : CallR X (.type "tuple") (fun xs H Q => ∃ p ys, xs = [.ref p] ∧ ((SqL X.K H p ys ∧ ∀ l o, H l = none → o.dict = none → Q (.ref l) (upd H l (.frz o (.tup ys)))) ∨ (SqT X.K H p ys ∧ Q (.ref p) H))) := by
  intro pins s σ H xs us Q I r h
  obtain ⟨p, ys, rfl, h⟩ := h
  obtain ⟨u, rfl, rx⟩ := vals1 r
  cases rx
  rcases h with ⟨hq, q⟩ | ⟨hq, q⟩
  · obtain ⟨its, r', pl, hz⟩ := I.list hq
    have hlen := r'.length
    refine call_tuple_list pl.isList (fun h' kp => ?_) (by simp only [List.size_toArray] <;> omega)
    exact tupLaid (s := { s with heap := h' }) (I.kept (t' := s.toks) kp) r' hz q
  · obtain ⟨its, r', pl, hz⟩ := I.tuple hq
    exact call_tuple_same pl ⟨.ref p, H, I, rfl, q⟩
theorem bt_tuple : CallR X (.type "tuple") (rVs G (one tupV1)) := call_one call_tupF fun w H st a c v Q S r e q => by
  unfold tupV1 at e
  split at e
  · cases e
    obtain ⟨a, o, vs, rfl, k1, k2, k3, k4⟩ := repTup r
    exact ⟨a, vs, rfl, .inr ⟨.inl (.inr ⟨_, k1⟩), q.now S (.tup k1 k2 k3 k4)⟩⟩
  · obtain ⟨ds, h1, h2⟩ := mapS e
    cases h2
    obtain ⟨p, vs, rfl, k1, k2⟩ := lstOf_ok S r h1
    refine ⟨p, vs, rfl, .inl ⟨SqL.of k1, fun l o hl ho => ?_⟩⟩
    obtain ⟨m, S', r'⟩ := newTup S hl ho k2
    exact q _ _ _ m S' r'
/-- list(x): fixed, or one that may change -/
def lstV1 (st : Store) (x : Vl) : Option Vl := (seqOf st x).map fun ds => .d (.lst ds)
theorem bt_list : CallR X (.type "list") (rVs G (one lstV1)) := call_one call_list_of fun w H st a c v Q S r e q => by
  obtain ⟨ds, h1, h2⟩ := mapS e
  cases h2
  obtain ⟨p, vs, rfl, k1, k2⟩ := seqOf_ok (K := X.K) S r h1
  refine ⟨p, vs, rfl, k1, fun l hl => ?_⟩
  obtain ⟨m, S', r'⟩ := newLst S hl k2
  exact q _ _ _ m S' r'
def lstN1 : FM := fun st as => match as with
  | [x] => (seqOf st x).map fun ds => (.r st.length, st ++ [.lst ds])
  | _ => none
theorem bt_listN : CallR X (.type "list") (rVs G lstN1) := by
  refine CallR.imp call_list_of fun xs H Q q => ?_
  obtain ⟨w, st, as, c, st', S, r, e, q⟩ := q
  unfold lstN1 at e
  split at e
  · obtain ⟨ds, h1, h2⟩ := mapS e
    cases h2
    obtain ⟨v, rfl, r1⟩ := rep1 r
    obtain ⟨p, vs, rfl, k1, k2⟩ := seqOf_ok (K := X.K) S r1 h1
    refine ⟨p, vs, rfl, k1, fun l hl => ?_⟩
    obtain ⟨m, S', r'⟩ := newLstN S hl k2
    exact q _ _ _ m S' r'
  · cases e
/-- sorted(ints) -/
def insI (x : Int) : List Int → List Int
  | [] => [x]
  | y :: ys => if x ≤ y then x :: y :: ys else y :: insI x ys
def sortI : List Int → List Int
  | [] => []
  | x :: xs => insI x (sortI xs)
theorem insI_perm (x : Int) : ∀ ys, (insI x ys).Perm (x :: ys)
  | [] => .refl _
  | y :: ys => by
    unfold insI
    split
    · exact .refl _
    · exact (List.Perm.cons y (insI_perm x ys)).trans (.swap x y ys)
theorem sortI_perm : ∀ xs, (sortI xs).Perm xs
  | [] => .refl _
  | x :: xs => (insI_perm x (sortI xs)).trans (.cons x (sortI_perm xs))
theorem insI_sorted (x : Int) : ∀ {ys : List Int}, ys.Pairwise (· ≤ ·) → (insI x ys).Pairwise (· ≤ ·)
  | [], _ => List.pairwise_singleton _ _
  | y :: ys, h => by
    obtain ⟨h1, h2⟩ := List.pairwise_cons.mp h
    unfold insI
    split
    · rename_i hx
      refine List.pairwise_cons.mpr ⟨fun z hz => ?_, h⟩
      rcases List.mem_cons.mp hz with rfl | hz
      · exact hx
      · exact Int.le_trans hx (h1 z hz)
    · rename_i hx
      refine List.pairwise_cons.mpr ⟨fun z hz => ?_, insI_sorted x h2⟩
      have := (insI_perm x ys).mem_iff.mp hz
      rcases List.mem_cons.mp this with rfl | hz
      · omega
      · exact h1 z hz
theorem sortI_sorted : ∀ xs, (sortI xs).Pairwise (· ≤ ·)
  | [] => List.Pairwise.nil
  | x :: xs => insI_sorted x (sortI_sorted xs)
theorem sort_unique {xs ys : List Int} (p : xs.Perm ys) (hx : xs.Pairwise (· ≤ ·)) (hy : ys.Pairwise (· ≤ ·)) : xs = ys :=
  List.Perm.eq_of_pairwise (le := fun a b => a ≤ b) (fun a b _ _ h1 h2 => Int.le_antisymm h1 h2) hx hy p
def sortV1 (st : Store) (x : Vl) : Option Vl := (lstOf st x).bind fun ds => (intsOf ds).map fun ns => .d (.lst ((sortI ns).map D.int))
theorem bi_sorted : CallR X (.builtin "sorted") (rVs G (one sortV1)) := call_one cr_sortedI fun w H st a c v Q S r e q => by
  obtain ⟨ds, h1, h2⟩ := bindS e
  obtain ⟨ns, h3, h4⟩ := mapS h2
  cases h4
  obtain ⟨p, vs, rfl, k1, k2⟩ := lstOf_ok S r h1
  rw [intsOf_eq h3] at k2
  rw [k2.ints] at k1
  refine ⟨p, ns, rfl, SqL.of k1, fun ns' l hp hs hl => ?_⟩
  have : ns' = sortI ns := sort_unique (hp.trans (sortI_perm ns).symm) hs (sortI_sorted ns)
  subst this
  obtain ⟨m, S', r'⟩ := newLst S hl (RepL.of_ints (G := G) (mu := w.mu) (H := H) (sortI ns))
  exact q _ _ _ m S' r'
/-- list(range(..)) -/
theorem rgV_eq (lo : Int) (n : Nat) : True := trivial

/-! ### isinstance -/
def tyOf (st : Store) : Vl → Option String
  | .d .non => some "NoneType"
  | .d (.bl _) => some "bool"
  | .d (.int _) => some "int"
  | .d (.str _) => some "str"
  | .d (.tup _) => some "tuple"
  | .d (.lst _) => some "list"
  | .d (.dic _ _) => some "dict"
  | .r n => match st[n]? with
    | some (.lst _) => some "list"
    | some (.grid _) => some "list"
    | some (.dic _ _) => some "dict"
    | _ => none
  | .rr n i => match st[n]? with
    | some (.grid rs) => if i < rs.length then some "list" else none
    | _ => none
  | _ => none
def isTy (T t : String) : Bool := t == T || (t == "bool" && T == "int")
theorem tyOf_ok {K : PySem.W.Frag} {w : Wd} {H : Hp} {st : Store} {x : Vl} {v : V} {t : String} (S : StOk G w H st) (r : RepV G w H x v) (h : tyOf st x = some t) :
    TyX K H v (.type t) ∧ t ∈ ["NoneType", "bool", "int", "str", "tuple", "list", "dict"] := by
  cases x with
  | d x =>
    cases x with
    | non => cases h; cases r; exact ⟨.base .non, by simp⟩
    | bl b => cases h; cases r; exact ⟨.base (.bl _), by simp⟩
    | int b => cases h; cases r; exact ⟨.base (.int _), by simp⟩
    | str b => cases h; cases r; exact ⟨.base (.str _), by simp⟩
    | tup ds =>
      cases h
      obtain ⟨a, o, vs, rfl, k1, k2, k3, k4⟩ := repTup r
      exact ⟨.fTuple k1, by simp⟩
    | lst ds =>
      cases h
      obtain ⟨a, vs, rfl, k1, k2, k3⟩ := repLst r
      exact ⟨.base (.lst k1), by simp⟩
    | dic ks ds =>
      cases h
      cases (show Rep G w.mu H (.dic ks ds) v from r) with
      | dic k1 _ _ _ => exact ⟨.base (.dK k1), by simp⟩
    | _ => cases h
  | r n =>
    obtain ⟨p, hp, hv⟩ := r
    simp only [tyOf] at h
    split at h
    · rename_i hc
      cases h
      obtain ⟨a, vs, rfl, e1, r1⟩ := S.cell _ _ p hc hp
      rw [hv a [] rfl]
      exact ⟨.base (.lst e1), by simp⟩
    · rename_i hc
      cases h
      obtain ⟨a, bs, rfl, e1, l, _⟩ := S.cell _ _ p hc hp
      rw [hv a bs rfl]
      exact ⟨.base (.lst e1), by simp⟩
    · rename_i hc
      cases h
      obtain ⟨a, vs, rfl, e1, r1⟩ := S.cell _ _ p hc hp
      rw [hv a [] rfl]
      exact ⟨.base (.dK e1), by simp⟩
    · cases h
  | rr n i =>
    obtain ⟨p, hp, hv⟩ := r
    simp only [tyOf] at h
    split at h
    · rename_i rs hc
      split at h
      · rename_i hi
        cases h
        obtain ⟨a, bs, rfl, e1, l, q⟩ := S.cell _ _ p hc hp
        have hb : i < bs.length := by omega
        obtain ⟨vs, e2, _⟩ := q i bs[i] rs[i] (List.getElem?_eq_getElem hb) (List.getElem?_eq_getElem hi)
        rw [hv a bs bs[i] rfl (List.getElem?_eq_getElem hb)]
        exact ⟨.base (.lst e2), by simp⟩
      · cases h
    · cases h
def mIsi (T : String) (m : EM) : EM := fun rho st => (m rho st).bind fun p => (tyOf p.2 p.1).map fun t => (.d (.bl (isTy T t)), p.2)
theorem se_isi {T : String} {y : Str} {p2 : Pos} (hT : ∀ t ∈ ["NoneType", "bool", "int", "str", "tuple", "list", "dict"], kitB t T = some (isTy T t)) (hm : X.mg "isinstance" = none) (hmy : X.mg y = none) (hv : bootBuiltins y = some (.type T)) (ha : SE X G a ma) (hg : Gl X "isinstance" := by rfl) (hgy : Gl X y := by rfl)
    (hn : y ≠ "__name__" := by decide) (hdb : (y == ("__debug__" : Str)) = false := by decide) (he : starEach [a, .Name y p2] X.env = (false, eval a X.env) :: starEach [.Name y p2] X.env := by rfl) (hpl : (backTo pos (starEach [.Name y p2] X.env)).any (·.1) = false := by rfl)
    (hs : starEach [.Name y p2] X.env = (false, eval (.Name y p2) X.env) :: starEach [] X.env := by rfl) : SE X G (.Call (.Name "isinstance" p) [a, .Name y p2] [] pos) (mIsi T ma) := by
  refine ⟨(pe_callB call_isi hg hm (by decide +kernel) (pa_cons ha.pe (pa_cons (pe_bltn (v := .ty T) hgy hmy hv rfl hn hdb) pa_nil hs) he) (by decide) (by decide) he hpl).imp fun σ H Q h => ?_⟩
  obtain ⟨w, rho, st, c, st', S, E, e, q⟩ := h
  obtain ⟨⟨x, s1⟩, e1, e⟩ := bindS e
  obtain ⟨t, e2, e⟩ := mapS e
  cases e
  refine ⟨w, rho, st, x, _, S, E, e1, fun w1 H1 v m1 S1 r1 => ?_⟩
  obtain ⟨k1, k2⟩ := tyOf_ok (K := X.K) S1 r1 e2
  exact ⟨v, .ty T, .type t, .type T, isTy T t, rfl, .ty T, k1, kit_ty (hT t k2), (q.from m1).now S1 (.bl _)⟩
end
end Mini

set_option Elab.async false
set_option linter.all false
set_option maxRecDepth 100000
namespace Mini
open PySem PySem.Spec PyProof.Rows L2

section
variable {X : Cx} {G : Sit} {e a b c tg iter o : Expr} {es : List Expr} {m ma mb mo mi mv : EM} {mas : AM} {pos p apos cpos : Pos} {ms ms' : SM} {x : Str}

/-! ### flat data, in, index -/
def vOf : D → V
  | .bl b => .bl b
  | .int i => .int i
  | .str x => .str x
  | _ => .non
theorem flat_rep {mu : List Addr} {H : Hp} {d : D} {v : V} (f : flat d = true) (r : Rep G mu H d v) : v = vOf d ∧ flatV v = true := by
  cases r with
  | non => exact ⟨rfl, rfl⟩
  | bl b => exact ⟨rfl, rfl⟩
  | int i => exact ⟨rfl, rfl⟩
  | str x => exact ⟨rfl, rfl⟩
  | _ => cases f
theorem flat_all {mu : List Addr} {H : Hp} : ∀ {ds : List D} {vs : List V}, ds.all flat = true → RepL G mu H ds vs → vs = ds.map vOf ∧ vs.all flatV = true
  | [], _, _, .nil => ⟨rfl, rfl⟩
  | d :: ds, _, h, .cons r t => by
    rw [List.all_cons, Bool.and_eq_true] at h
    obtain ⟨e1, f1⟩ := flat_rep h.1 r
    obtain ⟨e2, f2⟩ := flat_all h.2 t
    exact ⟨by rw [e1, e2]; rfl, by rw [List.all_cons, f1, f2]; rfl⟩
/-- == of flat data -/
def eqF (x y : D) : Bool := eqV (vOf x) (vOf y)
/-- in a list or tuple of flat things, in the keys of a dict -/
def dicOf (st : Store) : Vl → Option (List Key × List D)
  | .d (.dic ks ds) => some (ks, ds)
  | .r n => match st[n]? with
    | some (.dic ks ds) => some (ks, ds)
    | _ => none
  | _ => none
theorem dicOf_ok {w : Wd} {H : Hp} {st : Store} {y : Vl} {v : V} {ks : List Key} {ds : List D} (S : StOk G w H st) (r : RepV G w H y v) (h : dicOf st y = some (ks, ds)) : ∃ a vs, v = .ref a ∧ H a = some (.dK (ks.zip vs)) ∧ ks.length = vs.length ∧ RepL G w.mu H ds vs := by
  cases y with
  | d y =>
    cases y with
    | dic k1 d1 =>
      cases h
      cases (show Rep G w.mu H (.dic ks ds) v from r) with
      | dic k1 k2 k3 k4 => exact ⟨_, _, rfl, k1, k3, k4⟩
    | _ => cases h
  | r n =>
    obtain ⟨p, hp, hv⟩ := r
    simp only [dicOf] at h
    split at h
    · rename_i hc
      cases h
      obtain ⟨a, vs, rfl, e1, l, r1⟩ := S.cell _ _ p hc hp
      exact ⟨a, vs, hv a [] rfl, e1, l, r1⟩
    · cases h
  | rr n i => cases h
def inB (st : Store) (x y : Vl) : Option Bool := match dicOf st y with
  | some (ks, ds) => (keyOf x).map fun k => (lookD ks ds k).isSome
  | none => match x, seqOf st y with
    | .d d, some ds => if flat d && ds.all flat then some (ds.any fun z => eqF z d) else none
    | _, _ => none
def inV2 (st : Store) (x y : Vl) : Option Vl := (inB st x y).map fun b => .d (.bl b)
def ninV2 (st : Store) (x y : Vl) : Option Vl := (inB st x y).map fun b => .d (.bl (!b))
theorem inV_map {d : D} {ds : List D} : inV (vOf d) (ds.map vOf) = ds.any fun z => eqF z d := by
  unfold inV
  rw [List.any_map]
  rfl
theorem in_seq {K : PySem.W.Frag} {neg : Bool} {w : Wd} {H : Hp} {st : Store} {x y : Vl} {v u : V} {r : Bool} {Q : VK} (S : StOk G w H st) (rx : RepV G w H x v) (ry : RepV G w H y u) (hd : dicOf st y = none) (h : inB st x y = some r) (q : Q (.bl (if neg then !r else r)) H) : rIn K neg v u H Q := by
  unfold inB at h
  rw [hd] at h
  simp only at h
  split at h
  · rename_i d ds hs
    split at h
    · rename_i hf
      cases h
      rw [Bool.and_eq_true] at hf
      obtain ⟨p, vs, rfl, k1, k2⟩ := seqOf_ok (K := K) S ry hs
      obtain ⟨e1, f1⟩ := flat_rep hf.1 rx
      obtain ⟨e2, f2⟩ := flat_all hf.2 k2
      refine ⟨p, vs, rfl, k1, f1, f2, ?_⟩
      rw [e1, e2, inV_map]
      exact q
    · cases h
  · cases h
theorem in_dic {w : Wd} {H : Hp} {st : Store} {x y : Vl} {v u : V} {r : Bool} {kd : List Key × List D} (S : StOk G w H st) (rx : RepV G w H x v) (ry : RepV G w H y u) (hd : dicOf st y = some kd) (h : inB st x y = some r) : ∃ a o, u = .ref a ∧ DGet H a v o ∧ o.isSome = r := by
  unfold inB at h
  rw [hd] at h
  obtain ⟨ks, ds⟩ := kd
  obtain ⟨k, h1, h2⟩ := mapS h
  obtain ⟨a, vs, rfl, e1, l, r1⟩ := dicOf_ok S ry hd
  refine ⟨a, _, rfl, by rw [keyOf_ok rx h1]; exact DGet.k e1, ?_⟩
  obtain ⟨g1, g2⟩ := look_rep (k := k) l r1
  rw [← h2]
  cases hl : lookD ks ds k with
  | none => rw [g1 hl]; rfl
  | some d =>
    obtain ⟨v, h3, _⟩ := g2 d hl
    rw [h3]
    rfl
theorem _root_.L2.PT.or {t t' : TT} (h : PT X e t) (h' : PT X e t') : PT X e (fun σ H Q => t σ H Q ∨ t' σ H Q) := ⟨fun pins s σ H Q I q => q.elim (h.run pins s σ H Q I) (h'.run pins s σ H Q I)⟩
/-- the two readings of «in», by what the right side is -/
theorem tIn_of {neg : Bool} {σ : L2.St} {H : Hp} {Q : VK} (h : tE G (mOp (fun st x y => (inB st x y).map fun r => .d (.bl (if neg then !r else r))) ma mb) σ H Q) :
    tOp (rIn X.K neg) (tE G ma) (tE G mb) σ H Q ∨ (tE G ma σ H fun y H1 => tE G mb σ H1 fun x H2 => ∃ a o, x = .ref a ∧ DGet H2 a y o ∧ Q (.bl (if neg then !o.isSome else o.isSome)) H2) := by
  obtain ⟨w, rho, st, c, st', S, E, e, f⟩ := h
  obtain ⟨⟨x, s1⟩, e1, e⟩ := bindS e
  obtain ⟨⟨y, s2⟩, e2, e⟩ := bindS e
  obtain ⟨z, e3, e⟩ := mapS e
  obtain ⟨r, e4, e5⟩ := mapS e3
  cases e
  cases e5
  cases hd : dicOf s2 y with
  | none => exact .inl ⟨w, rho, st, x, s1, S, E, e1, fun w1 H1 v1 m1 S1 r1 => ⟨w1, rho, s1, y, _, S1, m1.env E, e2, fun w2 H2 v2 m2 S2 r2 => in_seq S2 (m2.repV r1) r2 hd e4 (((f.from m1).from m2).now S2 (.bl _))⟩⟩
  | some kd =>
    refine .inr ⟨w, rho, st, x, s1, S, E, e1, fun w1 H1 v1 m1 S1 r1 => ⟨w1, rho, s1, y, _, S1, m1.env E, e2, fun w2 H2 v2 m2 S2 r2 => ?_⟩⟩
    obtain ⟨a, o, h1, h2, h3⟩ := in_dic S2 (m2.repV r1) r2 hd e4
    exact ⟨a, o, h1, h2, by rw [h3]; exact ((f.from m1).from m2).now S2 (.bl _)⟩
theorem se_in (hu : X.A.units + 1 < cLine) (ha : SE X G a ma) (hb : SE X G b mb) (hm : behindInMarks .In b = false := by rfl) : SE X G (.Compare a [.In] [b] pos) (mOp inV2 ma mb) :=
  ⟨((pe_cmpR op_in_seq ha.pe hb.pe hm).or (pe_cmp (pc_din hu ha.pe hb.pe) hm)).imp fun _ _ _ h => tIn_of (neg := false) h⟩
theorem se_nin (hu : X.A.units + 1 < cLine) (ha : SE X G a ma) (hb : SE X G b mb) (hm : behindInMarks .NotIn b = false := by rfl) : SE X G (.Compare a [.NotIn] [b] pos) (mOp ninV2 ma mb) :=
  ⟨((pe_cmpR op_notIn_seq ha.pe hb.pe hm).or (pe_cmp (pc_dnotin hu ha.pe hb.pe) hm)).imp fun _ _ _ h => tIn_of (neg := true) h⟩
theorem sc_in (hu : X.A.units + 1 < cLine) (ha : SE X G a ma) (hb : SE X G b mb) (hm : behindInMarks .In b = false := by rfl) : SC X G (.Compare a [.In] [b] pos) (mB (mOp inV2 ma mb)) :=
  ⟨((pt_cmpR op_in_seq ha.pe hb.pe hm).or (pt_cmp (pc_din hu ha.pe hb.pe) hm)).imp fun _ _ _ h => tIn_of (neg := false) (tTest_of h)⟩
theorem sc_nin (hu : X.A.units + 1 < cLine) (ha : SE X G a ma) (hb : SE X G b mb) (hm : behindInMarks .NotIn b = false := by rfl) : SC X G (.Compare a [.NotIn] [b] pos) (mB (mOp ninV2 ma mb)) :=
  ⟨((pt_cmpR op_notIn_seq ha.pe hb.pe hm).or (pt_cmp (pc_dnotin hu ha.pe hb.pe) hm)).imp fun _ _ _ h => tIn_of (neg := true) (tTest_of h)⟩
/-- x is None, x is not None -/
def isN (neg : Bool) (st : Store) : Vl → Option Vl
  | .d .non => some (.d (.bl (!neg)))
  | .d _ => some (.d (.bl neg))
  | _ => none
theorem notNon {mu : List Addr} {H : Hp} {d : D} {v : V} (r : Rep G mu H d v) (h : d ≠ .non) : decide (v = .non) = false := by
  cases r <;> first | rfl | exact absurd rfl h
theorem isN_ok {neg : Bool} {w : Wd} {H : Hp} {st : Store} {x c : Vl} {v : V} {Q : VK} (S : StOk G w H st) (r : RepV G w H x v) (h : isN neg st x = some c) (q : Fin G w H c st Q) : Q (.bl (if neg then !decide (v = .non) else decide (v = .non))) H := by
  unfold isN at h
  split at h
  · cases h
    cases r
    cases neg <;> exact q.now S (.bl _)
  · rename_i d hd
    cases h
    rw [notNon r (fun z => hd (by rw [z]))]
    cases neg <;> exact q.now S (.bl _)
  · cases h
theorem se_isN {j : Nat} {pos' : Pos} (ha : SE X G a ma) : SE X G (.Compare a [.Is] [.Constant .none j pos'] pos) (mUn (isN false) ma) := by
  refine ⟨(pe_cmp (pc_isN ha.pe) (nobehind _ (by decide) (by decide))).imp fun σ H Q h => ?_⟩
  obtain ⟨w, rho, st, c, st', S, E, e, f⟩ := h
  obtain ⟨⟨x, s1⟩, e1, e⟩ := bindS e
  obtain ⟨z, e3, e⟩ := mapS e
  cases e
  exact ⟨w, rho, st, x, _, S, E, e1, fun w1 H1 v1 m1 S1 r1 => isN_ok (neg := false) S1 r1 e3 (f.from m1)⟩
theorem se_notN {j : Nat} {pos' : Pos} (ha : SE X G a ma) : SE X G (.Compare a [.IsNot] [.Constant .none j pos'] pos) (mUn (isN true) ma) := by
  refine ⟨(pe_cmp (pc_notN ha.pe) (nobehind _ (by decide) (by decide))).imp fun σ H Q h => ?_⟩
  obtain ⟨w, rho, st, c, st', S, E, e, f⟩ := h
  obtain ⟨⟨x, s1⟩, e1, e⟩ := bindS e
  obtain ⟨z, e3, e⟩ := mapS e
  cases e
  exact ⟨w, rho, st, x, _, S, E, e1, fun w1 H1 v1 m1 S1 r1 => isN_ok (neg := true) S1 r1 e3 (f.from m1)⟩
theorem sc_isN {j : Nat} {pos' : Pos} (ha : SE X G a ma) : SC X G (.Compare a [.Is] [.Constant .none j pos'] pos) (mB (mUn (isN false) ma)) := by
  refine ⟨(pt_cmp (pc_isN ha.pe) (nobehind _ (by decide) (by decide))).imp fun σ H Q h => ?_⟩
  obtain ⟨w, rho, st, c, st', S, E, e, f⟩ := tTest_of h
  obtain ⟨⟨x, s1⟩, e1, e⟩ := bindS e
  obtain ⟨z, e3, e⟩ := mapS e
  cases e
  exact ⟨w, rho, st, x, _, S, E, e1, fun w1 H1 v1 m1 S1 r1 => isN_ok (neg := false) S1 r1 e3 (f.from m1)⟩
theorem sc_notN {j : Nat} {pos' : Pos} (ha : SE X G a ma) : SC X G (.Compare a [.IsNot] [.Constant .none j pos'] pos) (mB (mUn (isN true) ma)) := by
  refine ⟨(pt_cmp (pc_notN ha.pe) (nobehind _ (by decide) (by decide))).imp fun σ H Q h => ?_⟩
  obtain ⟨w, rho, st, c, st', S, E, e, f⟩ := tTest_of h
  obtain ⟨⟨x, s1⟩, e1, e⟩ := bindS e
  obtain ⟨z, e3, e⟩ := mapS e
  cases e
  exact ⟨w, rho, st, x, _, S, E, e1, fun w1 H1 v1 m1 S1 r1 => isN_ok (neg := true) S1 r1 e3 (f.from m1)⟩

/-! ### methods of lists -/
theorem setLst {w : Wd} {H : Hp} {st : Store} (S : StOk G w H st) {n : Nat} {a : Addr} (hp : w.io[n]? = some [a]) {ds : List D} {vs : List V} (r : RepL G w.mu H ds vs) :
    Mono w w H (upd H a (.lst vs)) ∧ StOk G w (upd H a (.lst vs)) (st.set n (.lst ds)) :=
  Mono.write (c := .lst ds) S hp (by simp) fun k => ⟨a, vs, rfl, upd_same, k.repL r⟩
def mMt (g : Store → Vl → List Vl → Option (Vl × Store)) (mo : EM) (ma : AM) : EM := fun rho st => (mo rho st).bind fun p => if (lstOf p.2 p.1).isSome then (ma rho p.2).bind fun q => g q.2 p.1 q.1 else none
def rVt (G : Sit) (g : Store → Vl → List Vl → Option (Vl × Store)) : V → List V → Hp → VK → Prop := fun x xs H Q => ∃ w st a as c st', StOk G w H st ∧ RepV G w H a x ∧ RepVs G w H as xs ∧ g st a as = some (c, st') ∧ Fin G w H c st' Q
theorem tyL_of {K : PySem.W.Frag} {w : Wd} {H : Hp} {st : Store} {y : Vl} {v : V} (S : StOk G w H st) (r : RepV G w H y v) (h : (lstOf st y).isSome = true) : tyV K "list" v H := by
  obtain ⟨ds, hd⟩ := Option.isSome_iff_exists.mp h
  obtain ⟨p, vs, rfl, k1, _⟩ := lstOf_ok S r hd
  exact .inl ⟨rfl, vs, SqL.of k1⟩
theorem se_mt {id : String} {name : Str} {g : Store → Vl → List Vl → Option (Vl × Store)} (pa : PlainAttrs "list") (slot : Slot "list" name id) (hty : typeOf (.builtin id) = pure (.type "method_descriptor")) (hm : MtR X id (rVt G g)) (ho : SE X G o mo) (ha : SA X G (e :: es) mas)
    (hbase : attributeBase o name X.env (eval o X.env) = eval o X.env := by rfl)
    (hfew : ((backTo cpos (starEach (e :: es) X.env)).all (fun x => !x.1) && (backToKw cpos (keywordEach [] X.env)).all (fun x => x.1.isSome)
      && decide ((e :: es).length + ([] : List Keyword).length + (if ([] : List Keyword).isEmpty then 0 else 1) < 30)) = true := by rfl)
    (hline : (apos.endLine == cpos.line) = true := by rfl) (hs : starEach (e :: es) X.env = (false, eval e X.env) :: starEach es X.env := by rfl) (hplain : (backTo cpos (starEach es X.env)).any (·.1) = false := by rfl) :
    SE X G (.Call (.Attribute o name apos) (e :: es) [] cpos) (mMt g mo mas) := by
  refine ⟨(pe_bm pa slot hty hm ho.pe ha.pa hbase hfew hline hs hplain).imp fun σ H Q h => ?_⟩
  obtain ⟨w, rho, st, c, st', S, E, e, f⟩ := h
  obtain ⟨⟨x, s1⟩, e1, e⟩ := bindS e
  split at e
  · rename_i hl
    obtain ⟨⟨xs, s2⟩, e2, e⟩ := bindS e
    exact ⟨w, rho, st, x, s1, S, E, e1, fun w1 H1 v1 m1 S1 r1 => ⟨tyL_of S1 r1 hl, w1, rho, s1, xs, s2, S1, m1.env E, e2, fun w2 H2 vs m2 S2 r2 => ⟨w2, s2, x, xs, c, st', S2, m2.repV r1, r2, e, (f.from m1).from m2⟩⟩⟩
  · cases e
theorem se_mt0 {id : String} {name : Str} {g : Store → Vl → List Vl → Option (Vl × Store)} (pa : PlainAttrs "list") (slot : Slot "list" name id) (hty : typeOf (.builtin id) = pure (.type "method_descriptor")) (hm : MtR X id (rVt G g)) (ho : SE X G o mo)
    (hbase : attributeBase o name X.env (eval o X.env) = eval o X.env := by rfl) (hline : (apos.endLine == cpos.line) = true := by rfl) : SE X G (.Call (.Attribute o name apos) [] [] cpos) (mMt g mo mNil) := by
  refine ⟨(pe_bm0 pa slot hty hm ho.pe hbase hline).imp fun σ H Q h => ?_⟩
  obtain ⟨w, rho, st, c, st', S, E, e, f⟩ := h
  obtain ⟨⟨x, s1⟩, e1, e⟩ := bindS e
  split at e
  · rename_i hl
    obtain ⟨⟨xs, s2⟩, e2, e⟩ := bindS e
    cases e2
    exact ⟨w, rho, st, x, _, S, E, e1, fun w1 H1 v1 m1 S1 r1 => ⟨tyL_of S1 r1 hl, w1, _, x, [], c, st', S1, r1, .nil, e, f.from m1⟩⟩
  · cases e
theorem MtR.imp {id : String} {r r' : V → List V → Hp → VK → Prop} (h : MtR X id r) (hi : ∀ x xs H Q, r' x xs H Q → r x xs H Q) : MtR X id r' := fun pins s σ H x xs v us Q I rx rs q => h pins s σ H x xs v us Q I rx rs (hi _ _ _ _ q)
def appendT (st : Store) (x : Vl) (as : List Vl) : Option (Vl × Store) := match x, as with
  | .r n, [.d y] => match st[n]? with
    | some (.lst ds) => if ds.length < lim then some (.d .non, st.set n (.lst (ds ++ [y]))) else none
    | _ => none
  | _, _ => none
theorem mt_appendT : MtR X "list.append" (rVt G appendT) := by
  refine MtR.imp mt_append fun x xs H Q h => ?_
  obtain ⟨w, st, a, as, c, st', S, rx, rs, e, q⟩ := h
  unfold appendT at e
  split at e
  · split at e
    · rename_i hc
      split at e
      · rename_i hl
        cases e
        obtain ⟨p, hp, hv⟩ := rx
        obtain ⟨v, rfl, ry⟩ := rep1 rs
        obtain ⟨a, vs, rfl, k1, k2⟩ := S.cell _ _ p hc hp
        refine ⟨a, vs, v, hv a [] rfl, rfl, k1, by rw [← k2.length, lim_eq]; exact hl, ?_⟩
        obtain ⟨m3, S3⟩ := setLst S hp (k2.append (.cons ry .nil))
        exact q _ _ _ m3 S3 .non
      · cases e
    · cases e
  · cases e
def popT (st : Store) (x : Vl) (as : List Vl) : Option (Vl × Store) := match x, as with
  | .r n, [] => match st[n]? with
    | some (.lst ds) => (ds[ds.length - 1]?).map fun y => (.d y, st.set n (.lst ds.dropLast))
    | _ => none
  | _, _ => none
theorem mt_popT : MtR X "list.pop" (rVt G popT) := by
  refine MtR.imp mt_pop fun x xs H Q h => ?_
  obtain ⟨w, st, a, as, c, st', S, rx, rs, e, q⟩ := h
  unfold popT at e
  split at e
  · split at e
    · rename_i hc
      obtain ⟨y, h1, h2⟩ := mapS e
      cases h2
      obtain ⟨p, hp, hv⟩ := rx
      cases rs
      obtain ⟨a, vs, rfl, k1, k2⟩ := S.cell _ _ p hc hp
      obtain ⟨v, hv2, rv⟩ := k2.get h1
      refine ⟨a, vs, v, hv a [] rfl, rfl, k1, by rw [← k2.length]; exact hv2, ?_⟩
      obtain ⟨m3, S3⟩ := setLst S hp k2.dropLast
      exact q _ _ _ m3 S3 (m3.toKept.rep rv)
    · cases e
  · cases e
def popIT (st : Store) (x : Vl) (as : List Vl) : Option (Vl × Store) := match x, as with
  | .r n, [.d (.int i)] => match st[n]? with
    | some (.lst ds) => if big62 i then (ixN ds.length i).bind fun k => (ds[k]?).map fun y => (.d y, st.set n (.lst (ds.eraseIdx k))) else none
    | _ => none
  | _, _ => none
theorem mt_popIT : MtR X "list.pop" (rVt G popIT) := by
  refine MtR.imp mt_popAt fun x xs H Q h => ?_
  obtain ⟨w, st, a, as, c, st', S, rx, rs, e, q⟩ := h
  unfold popIT at e
  split at e
  · split at e
    · rename_i hc
      split at e
      · rename_i hb
        obtain ⟨k, h0, e⟩ := bindS e
        obtain ⟨y, h1, h2⟩ := mapS e
        cases h2
        obtain ⟨p, hp, hv⟩ := rx
        obtain ⟨z, rfl, rz⟩ := rep1 rs
        cases rz
        obtain ⟨a, vs, rfl, k1, k2⟩ := S.cell _ _ p hc hp
        obtain ⟨v, hv2, rv⟩ := k2.get h1
        have hb := big62_ok hb
        refine ⟨a, vs, _, k, v, hv a [] rfl, rfl, k1, by omega, by omega, by rw [← k2.length]; exact (ixN_seq h0).1, hv2, ?_⟩
        obtain ⟨m3, S3⟩ := setLst S hp (k2.eraseIdx k)
        exact q _ _ _ m3 S3 (m3.toKept.rep rv)
      · cases e
    · cases e
  · cases e
def extendT (st : Store) (x : Vl) (as : List Vl) : Option (Vl × Store) := match x, as with
  | .r n, [.d (.lst ys)] => match st[n]? with
    | some (.lst ds) => if ds.length + ys.length ≤ lim then some (.d .non, st.set n (.lst (ds ++ ys))) else none
    | _ => none
  | _, _ => none
theorem mt_extendT : MtR X "list.extend" (rVt G extendT) := by
  refine MtR.imp mt_extend fun x xs H Q h => ?_
  obtain ⟨w, st, a, as, c, st', S, rx, rs, e, q⟩ := h
  unfold extendT at e
  split at e
  · split at e
    · rename_i hc
      split at e
      · rename_i hl
        cases e
        obtain ⟨p, hp, hv⟩ := rx
        obtain ⟨v, rfl, ry⟩ := rep1 rs
        obtain ⟨b, ws, rfl, l1, l2, l3⟩ := repLst ry
        obtain ⟨a, vs, rfl, k1, k2⟩ := S.cell _ _ p hc hp
        refine ⟨a, b, vs, ws, hv a [] rfl, rfl, k1, l1, by rw [← k2.length, ← l3.length, lim_eq]; exact hl, ?_⟩
        obtain ⟨m3, S3⟩ := setLst S hp (k2.append l3)
        exact q _ _ _ m3 S3 .non
      · cases e
    · cases e
  · cases e

/-! ### index -/
def findF (d : D) (ds : List D) : Option Nat := ds.findIdx? fun z => eqF z d
def indexL (st : Store) (x : Vl) (as : List Vl) : Option (Vl × Store) := match lstOf st x, as with
  | some ds, [.d d] => if flat d && ds.all flat then (findF d ds).map fun j => (.d (.int (j : Nat)), st) else none
  | _, _ => none
theorem findF_at {d : D} {ds : List D} {j : Nat} (h : findF d ds = some j) : (∃ z, ds[j]? = some z ∧ eqF z d = true) ∧ ∀ m z, m < j → ds[m]? = some z → eqF z d = false := by
  unfold findF at h
  obtain ⟨h1, h2, h3⟩ := List.findIdx?_eq_some_iff_getElem.mp h
  refine ⟨⟨ds[j], List.getElem?_eq_getElem h1, h2⟩, fun m z hm hz => ?_⟩
  have hml : m < ds.length := by omega
  rw [List.getElem?_eq_getElem hml] at hz
  cases hz
  have := h3 m hm
  simpa using this
theorem mt_indexLT : MtR X "list.index" (rVt G indexL) := by
  refine MtR.imp mt_index fun x xs H Q h => ?_
  obtain ⟨w, st, a, as, c, st', S, rx, rs, e, q⟩ := h
  unfold indexL at e
  split at e
  · rename_i ds d hl
    split at e
    · rename_i hf
      obtain ⟨j, h1, h2⟩ := mapS e
      cases h2
      rw [Bool.and_eq_true] at hf
      obtain ⟨v, rfl, ry⟩ := rep1 rs
      obtain ⟨p, vs, rfl, k1, k2⟩ := lstOf_ok S rx hl
      obtain ⟨e1, f1⟩ := flat_rep hf.1 ry
      obtain ⟨e2, f2⟩ := flat_all hf.2 k2
      obtain ⟨⟨z, g1, g2⟩, g3⟩ := findF_at h1
      refine ⟨p, vs, v, j, vOf z, rfl, rfl, SqL.of k1, f1, f2, by rw [e2, List.getElem?_map, g1]; rfl, by rw [e1]; exact g2, fun m z' hm hz => ?_, q.now S (.int _)⟩
      rw [e2, List.getElem?_map] at hz
      obtain ⟨y, hy, rfl⟩ := mapS hz
      rw [e1]
      exact g3 m y hm hy
    · cases e
  · cases e
/-- t.index(y), t a tuple -/
def mIxT (mo : EM) (ma : AM) : EM := fun rho st => (mo rho st).bind fun p => match p.1 with
  | .d (.tup ds) => (ma rho p.2).bind fun q => match q.1 with
    | [.d d] => if flat d && ds.all flat then (findF d ds).map fun j => (.d (.int (j : Nat)), q.2) else none
    | _ => none
  | _ => none
theorem call_tupIndex {pins : List (Addr × Obj)} {s : Shared} {σ : L2.St} {H : Hp} {Q : VK} {p : Addr} {ys : List V} {y : V} {u : Value} {j : Nat} {z : V} (I : Inv X pins σ H s) (hq : SqT X.K H p ys) (ry : RelV y u) (fy : flatV y = true) (fys : ys.all flatV = true) (hz : ys[j]? = some z) (hzj : eqV z y = true)
    (hno : ∀ (m : Nat) (z' : V), m < j → ys[m]? = some z' → eqV z' y = false) (q : Q (.int (j : Nat)) H) : wpAny (model X.prog X.w) X.A (call (.builtin "tuple.index") [.ref p, u]) (EP X pins σ Q) X.xe s := by
  obtain ⟨its, rv, pl, hlen⟩ := I.tuple hq
  obtain ⟨⟨cls, dd, dt, sl⟩, ho, hc, n, hd⟩ := pl
  simp only at hc hd
  subst hc
  subst hd
  have at' : ∀ {m : Nat} {z' : V}, ys[m]? = some z' → ∀ hm : m < its.toArray.size, eqU y its.toArray[m] = eqV z' y := fun {m z'} h hm => by
    obtain ⟨u2, hu2, ru2⟩ := rv.get h
    obtain ⟨_, hme⟩ := List.getElem?_eq_some_iff.mp hu2
    have e1 : its.toArray[m] = u2 := by simpa using hme
    rw [e1, eqU_of ru2 (flat_at fys h)]
  have hj : j < its.toArray.size := by
    have := (List.getElem?_eq_some_iff.mp hz).1
    rw [List.size_toArray, ← rv.length]
    exact this
  refine call_meets PySem.F.slot_tuple_index ⟨_, ho, rfl⟩ PySem.F.entry_tuple_index (PySem.F.args_tuple_index_2 _ _) (TI.tuple_indexAt p its.toArray n dd sl u (eqU y) j hj ?_ ?_)
    ⟨ho, fun u' hu' => mem_eqAt ry fy rv fys u' (by simpa using hu'), ⟨.int (j : Nat), H, I.tok _, ⟨_, rfl⟩, q⟩⟩
  · rw [at' hz]; exact hzj
  · intro m hm hmj
    have hm2 : m < ys.length := by
      rw [List.size_toArray, ← rv.length] at hm
      exact hm
    rw [at' (List.getElem?_eq_getElem hm2)]
    exact hno m _ hmj (List.getElem?_eq_getElem hm2)
theorem se_ixT (ho : SE X G o mo) (ha : SA X G [e] mas)
    (hbase : attributeBase o "index" X.env (eval o X.env) = eval o X.env := by rfl)
    (hfew : ((backTo cpos (starEach [e] X.env)).all (fun x => !x.1) && (backToKw cpos (keywordEach [] X.env)).all (fun x => x.1.isSome)
      && decide (([e] : List Expr).length + ([] : List Keyword).length + (if ([] : List Keyword).isEmpty then 0 else 1) < 30)) = true := by rfl)
    (hline : (apos.endLine == cpos.line) = true := by rfl) (hs : starEach [e] X.env = (false, eval e X.env) :: starEach [] X.env := by rfl) (hplain : (backTo cpos (starEach [] X.env)).any (·.1) = false := by rfl) :
    SE X G (.Call (.Attribute o "index" apos) [e] [] cpos) (mIxT mo mas) := by
  refine ⟨⟨fun pins s σ H Q I h => ?_⟩⟩
  obtain ⟨w, rho, st, c, st', S, E, e, f⟩ := h
  obtain ⟨⟨x, s1⟩, e1, e⟩ := bindS e
  simp only at e
  split at e
  · rename_i ds
    obtain ⟨⟨xs, s2⟩, e2, e⟩ := bindS e
    simp only at e
    split at e
    · rename_i d
      split at e
      · rename_i hf
        obtain ⟨j, h1, h2⟩ := mapS e
        cases h2
        rw [Bool.and_eq_true] at hf
        refine wpAny_Call_method_late hbase hfew hline rfl (thn (ho.pe.run pins s σ H _ I ⟨w, rho, st, _, s1, S, E, e1, fun w1 H1 v1 m1 S1 r1 => (⟨w1, m1, S1, r1⟩ : ∃ w1, Mono w w1 H H1 ∧ StOk G w1 H1 s1 ∧ RepV G w1 H1 (.d (.tup ds)) v1)⟩) fun v s1' ⟨x, H1, I1, r1, w1, m1, S1, q1⟩ => ?_)
        obtain ⟨a, o', vs, rfl, k1, k2, k3, k4⟩ := repTup q1
        obtain rfl : v = Value.ref a := r1
        obtain ⟨ob, z, its, rv, od, oe, oc, _⟩ := (show ObjOk X.prog X.w H1 s1'.heap a (.frz o' (.tup vs)) from I1.hok a _ k1)
        refine ⟨"tuple", "tuple.index", PySem.F.plainAttrs_tuple, PySem.F.slot_tuple_index, PySem.F.type_tuple_index, ⟨od, oe, oc⟩, fun b hb => ?_, ?_⟩
        · cases hb
          exact ⟨_, ob, k2⟩
        · have hA := ha.pa.run cpos pins s1' σ H1 (fun zs H2 => ∃ w2, Mono w1 w2 H1 H2 ∧ StOk G w2 H2 _ ∧ RepVs G w2 H2 _ zs) I1 ⟨w1, rho, s1, _, _, S1, m1.env E, e2, fun w2 H2 vs m2 S2 r2 => ⟨w2, m2, S2, r2⟩⟩
          rw [hs] at hA ⊢
          refine Calls.callWith_builtin (by show (false || (backTo cpos (starEach [] X.env)).any (·.1)) = false; rw [hplain] <;> rfl) (Calls.evalArgs_plain ?_)
          refine thn hA fun us s3 ⟨zs, H2, I2, r2, w2, m2, S2, r3⟩ => ?_
          obtain ⟨y, rfl, ry⟩ := rep1 r3
          obtain ⟨u, rfl, ru⟩ := vals1 r2
          have k4' := m2.toKept.repL k4
          obtain ⟨e3, f1⟩ := flat_rep hf.1 ry
          obtain ⟨e4, f2⟩ := flat_all hf.2 k4'
          obtain ⟨⟨z, g1, g2⟩, g3⟩ := findF_at h1
          refine call_tupIndex (z := vOf z) I2 (.inl (.inr ⟨_, m2.keep _ _ k1 k3⟩)) ru f1 f2 (by rw [e4, List.getElem?_map, g1]; rfl) (by rw [e3]; exact g2) (fun m z' hm hz => ?_) (((f.from m1).from m2).now S2 (.int _))
          rw [e4, List.getElem?_map] at hz
          obtain ⟨y', hy, rfl⟩ := mapS hz
          rw [e3]
          exact g3 m y' hm hy
      · cases e
    · cases e
  · cases e
end
end Mini

set_option Elab.async false
set_option linter.all false
set_option maxRecDepth 100000
namespace Mini
open PySem PySem.Spec PyProof.Rows L2

section
variable {X : Cx} {G : Sit} {e a b c tg iter o : Expr} {es : List Expr} {m ma mb mo mi mv : EM} {mas : AM} {pos p apos cpos : Pos} {ms ms' : SM} {x : Str} {st0 : Stmt}

/-! ### o[i] = v -/
theorem _root_.L2.PS.or {t t' : TS} (h : PS X st0 t) (h' : PS X st0 t') : PS X st0 (fun D σ H => t D σ H ∨ t' D σ H) := ⟨fun pins s σ H D I q => q.elim (h.run pins s σ H D I) (h'.run pins s σ H D I)⟩
def setIx (st : Store) (x i : Vl) (y : D) : Option Store := match x with
  | .r n => match st[n]? with
    | some (.lst ds) => match i with
      | .d (.int k) => (ixN ds.length k).map fun j => st.set n (.lst (ds.set j y))
      | _ => none
    | some (.dic ks ds) => (keyOf i).bind fun k => if ks.length < lim then some (st.set n (.dic (putD ks ds k y).1 (putD ks ds k y).2)) else none
    | _ => none
  | .rr n r => match st[n]? with
    | some (.grid rs) => match i with
      | .d (.int k) => (rs[r]?).bind fun row => (ixN row.length k).map fun j => st.set n (.grid (rs.set r (row.set j y)))
      | _ => none
    | _ => none
  | _ => none
def mSetIx (mo mi mv : EM) : SM := fun rho st => (mv rho st).bind fun p => (mo rho p.2).bind fun q => (mi rho q.2).bind fun r => match p.1 with
  | .d y => (setIx r.2 q.1 r.1 y).map fun s => (.nx, rho, s)
  | _ => none
theorem setIx_list {w : Wd} {H : Hp} {st st' : Store} {x i : Vl} {y : D} {v u z : V} {R : Hp → Prop} (S : StOk G w H st) (rx : RepV G w H x v) (ri : RepV G w H i u) (ry : Rep G w.mu H y z) (hd : isDic st x = false) (h : setIx st x i y = some st') (q : ∀ H', Mono w w H H' → StOk G w H' st' → R H') : rSetL v u z H R := by
  cases x with
  | d x => cases h
  | r n =>
    obtain ⟨p, hp, hv⟩ := rx
    simp only [setIx] at h
    split at h
    · rename_i ds hc
      split at h
      · rename_i k
        obtain ⟨j, h1, h2⟩ := mapS h
        subst h2
        cases ri
        obtain ⟨a, vs, rfl, k1, k2⟩ := S.cell _ _ p hc hp
        obtain ⟨m3, S3⟩ := setLst S hp (k2.set ry j)
        exact ⟨a, vs, k, j, hv a [] rfl, rfl, k1, by rw [← k2.length]; exact h1, q _ m3 S3⟩
      · cases h
    · rename_i hc
      simp [isDic, hc] at hd
    · cases h
  | rr n r =>
    obtain ⟨p, hp, hv⟩ := rx
    simp only [setIx] at h
    split at h
    · rename_i rs hc
      split at h
      · rename_i k
        obtain ⟨row, h0, h9⟩ := bindS h
        obtain ⟨j, h1, h2⟩ := mapS h9
        subst h2
        cases ri
        obtain ⟨a, bs, rfl, k1, l, k2⟩ := S.cell _ _ p hc hp
        have hr : r < bs.length := by rw [l]; exact (List.getElem?_eq_some_iff.mp h0).1
        obtain ⟨vs, e1, r1⟩ := k2 r bs[r] row (List.getElem?_eq_getElem hr) h0
        have hb : bs[r] ∈ a :: bs := List.mem_cons_of_mem _ (List.getElem_mem hr)
        have nd : (a :: bs).Nodup := (List.pairwise_flatten.mp (List.nodup_append.mp S.nd).2.1).1 _ (List.mem_of_getElem? hp)
        obtain ⟨na, nb⟩ := List.nodup_cons.mp nd
        obtain ⟨m3, S3⟩ := Mono.write (G := G) (o := .lst (vs.set j z)) S hp hb (c := .grid (rs.set r (row.set j y))) fun kk => by
          refine ⟨a, bs, rfl, ?_, by rw [List.length_set]; exact l, fun i b ds g1 g2 => ?_⟩
          · rw [upd_ne (fun e => na (by rw [e]; exact List.getElem_mem hr))]; exact k1
          · by_cases hir : r = i
            · subst hir
              rw [List.getElem?_eq_getElem hr] at g1
              cases g1
              rw [List.getElem?_set_self (by rw [← l]; exact hr)] at g2
              cases g2
              exact ⟨_, upd_same, (kk.repL r1).set (kk.rep ry) j⟩
            · rw [List.getElem?_set_ne hir] at g2
              obtain ⟨vs2, e2, r2⟩ := k2 i b ds g1 g2
              refine ⟨vs2, ?_, kk.repL r2⟩
              rw [upd_ne]
              · exact e2
              · intro z
                obtain ⟨i1, i2⟩ := List.getElem?_eq_some_iff.mp g1
                have := (List.getElem_inj nb).mp (i2.trans z)
                exact hir this.symm
        exact ⟨bs[r], vs, k, j, hv a bs bs[r] rfl (List.getElem?_eq_getElem hr), rfl, e1, by rw [← r1.length]; exact h1, q _ m3 S3⟩
      · cases h
    · cases h
theorem setIx_dic {w : Wd} {H : Hp} {st st' : Store} {x i : Vl} {y : D} {v u z : V} (S : StOk G w H st) (rx : RepV G w H x v) (ri : RepV G w H i u) (ry : Rep G w.mu H y z) (hd : isDic st x = true) (h : setIx st x i y = some st') :
    ∃ a H', v = .ref a ∧ DPut H a u z H' ∧ Mono w w H H' ∧ StOk G w H' st' := by
  cases x with
  | d x => cases h
  | rr n r => cases hd
  | r n =>
    obtain ⟨p, hp, hv⟩ := rx
    simp only [setIx] at h
    split at h
    · rename_i hc
      simp [isDic, hc] at hd
    · rename_i ks ds hc
      obtain ⟨k, h1, h⟩ := bindS h
      split at h
      · rename_i hl
        cases h
        obtain ⟨a, vs, rfl, k1, l, k2⟩ := S.cell _ _ p hc hp
        obtain ⟨vs', g1, g2, g3⟩ := put_rep (k := k) l k2 ry
        obtain ⟨m3, S3⟩ := Mono.write (G := G) (a := a) (o := .dK (putK (ks.zip vs) k z)) S hp (by simp) (c := .dic (putD ks ds k y).1 (putD ks ds k y).2) fun kk => ⟨a, vs', rfl, by rw [upd_same, g1], g2, kk.repL g3⟩
        refine ⟨a, _, hv a [] rfl, ?_, m3, S3⟩
        rw [keyOf_ok ri h1]
        exact DPut.k k1 (by rw [List.length_zip, lim_eq]; omega)
      · cases h
    · cases h
theorem ss_setIx {i value : Expr} {pos' : Pos} (hu : X.A.units + 1 < cLine) (ho : SE X G o mo) (hi : SE X G i mi) (hv : SE X G value mv) (hs : swapsWith value (some (.Subscript o i pos')) pos.line X.env = pure false := by rfl)
    (hs1 : swapsWithSole [.Subscript o i pos'] value pos.line X.env = pure false := by rfl) (hw : swappedStores [.Subscript o i pos'] value X.env = pure none := by rfl) (h1 : (assignEach [.Subscript o i pos'] X.env).map (·.2) = [assign (.Subscript o i pos') X.env] := by rfl)
    (ha : ∀ v, assign (.Subscript o i pos') X.env v = (do
      let ov ← holding [v] (eval o X.env)
      let iv ← holding [v, ov] (eval i X.env)
      standAt pos'
      holding [v, ov, iv] (setItem ov iv v)
      release [v, ov, iv] []) := by intro _; rfl) : SS X G (.Assign [.Subscript o i pos'] value pos) (mSetIx mo mi mv) := by
  refine ⟨((ps_asg hv.pe (pg_sub ho.pe hi.pe set_list ha) hs1 hw h1).or (ps_dput hu ho.pe hi.pe hv.pe hs)).imp fun D σ H h => ?_⟩
  obtain ⟨w, rho, st, fl, rho', st', S, E, e, q⟩ := h
  obtain ⟨⟨y, s1⟩, e1, e⟩ := bindS e
  obtain ⟨⟨x, s2⟩, e2, e⟩ := bindS e
  obtain ⟨⟨k, s3⟩, e3, e⟩ := bindS e
  simp only at e
  split at e
  · obtain ⟨s4, e4, e⟩ := mapS e
    cases e
    cases hd : isDic s3 x with
    | false =>
      refine .inl ⟨w, _, st, _, s1, S, E, e1, fun w1 H1 v1 m1 S1 r1 => ⟨w1, _, s1, x, s2, S1, m1.env E, e2, fun w2 H2 v2 m2 S2 r2 => ⟨w2, _, s2, k, s3, S2, m2.env (m1.env E), e3, fun w3 H3 v3 m3 S3 r3 => ?_⟩⟩⟩
      refine setIx_list S3 (m3.repV r2) r3 (m3.toKept.rep (m2.toKept.rep r1)) hd e4 fun H' m4 S4 => ?_
      exact q _ H' (((m1.trans m2).trans m3).trans m4) S4 σ (m4.env (m3.env (m2.env (m1.env E))))
    | true =>
      refine .inr ⟨w, _, st, _, s1, S, E, e1, fun w1 H1 v1 m1 S1 r1 => ⟨w1, _, s1, x, s2, S1, m1.env E, e2, fun w2 H2 v2 m2 S2 r2 => ⟨w2, _, s2, k, s3, S2, m2.env (m1.env E), e3, fun w3 H3 v3 m3 S3 r3 => ?_⟩⟩⟩
      obtain ⟨a, H', g1, g2, m4, S4⟩ := setIx_dic S3 (m3.repV r2) r3 (m3.toKept.rep (m2.toKept.rep r1)) hd e4
      exact ⟨a, H', g1, g2, q _ H' (((m1.trans m2).trans m3).trans m4) S4 σ (m4.env (m3.env (m2.env (m1.env E))))⟩
  · cases e

/-! ### dicts made -/
def mDicN : EM := fun _ st => some (.r st.length, st ++ [.dic [] []])
theorem se_dicN : SE X G (.Dict [] [] pos) mDicN := by
  refine ⟨pe_dnewK.imp fun σ H Q h => ?_⟩
  obtain ⟨w, rho, st, c, st', S, E, e, f⟩ := h
  cases e
  intro p hp
  obtain ⟨m1, S1⟩ := Mono.alloc (G := G) (o := .dK []) S hp (c := .dic [] []) fun mu' _ k => ⟨p, [], rfl, upd_same, rfl, .nil⟩
  refine f _ _ _ m1 S1 ⟨[p], ?_, fun a q z => by cases z; rfl⟩
  show (w.io ++ [[p]])[st.length]? = _
  rw [S.len, List.getElem?_append_right (Nat.le_refl _)]
  simp
/-- {k: v, ..}: one that may change -/
def mPairs : List (EM × EM) → Rho → Store → Option (List (Key × D) × Store)
  | [], _, st => some ([], st)
  | (mk, mv) :: r, rho, st => (mk rho st).bind fun p => (keyOf p.1).bind fun k => (mv rho p.2).bind fun q => match q.1 with
    | .d y => (mPairs r rho q.2).map fun z => ((k, y) :: z.1, z.2)
    | _ => none
def putAll : List (Key × D) → List Key × List D → List Key × List D
  | [], a => a
  | (k, y) :: r, a => putAll r (putD a.1 a.2 k y)
def mDisp (ps : List (EM × EM)) : EM := fun rho st => (mPairs ps rho st).bind fun p => if p.1.length ≤ 15 then some (.r p.2.length, p.2 ++ [.dic (putAll p.1 ([], [])).1 (putAll p.1 ([], [])).2]) else none
structure SPs (X : Cx) (G : Sit) (pos : Pos) (keys : List (Option Expr)) (values : List Expr) (ps : List (EM × EM)) : Prop where
  pps : PPs X pos keys values (ps.map fun q => (tE G q.1, tE G q.2))
theorem sps_nil : SPs X G pos [] [] [] := ⟨pps_nil⟩
theorem sps_cons {k v : Expr} {mk mv : EM} {ks : List (Option Expr)} {vs : List Expr} {ps : List (EM × EM)} (hk : SE X G k mk) (hv : SE X G v mv) (hr : SPs X G pos ks vs ps) : SPs X G pos (some k :: ks) (v :: vs) ((mk, mv) :: ps) := ⟨pps_cons hk.pe hv.pe hr.pps⟩
theorem tPairs_of : ∀ {ps : List (EM × EM)} {σ : L2.St} {H : Hp} {Q : List (V × V) → Hp → Prop} {w : Wd} {rho : Rho} {st st' : Store} {kvs : List (Key × D)}, StOk G w H st → EnvOk G w H σ rho → mPairs ps rho st = some (kvs, st') →
    (∀ w' H' vs, Mono w w' H H' → StOk G w' H' st' → RepL G w'.mu H' (kvs.map (·.2)) vs → Q (((kvs.map (·.1)).zip vs).map fun q => (kV q.1, q.2)) H') → tPairs (ps.map fun q => (tE G q.1, tE G q.2)) σ H Q
  | [], σ, H, Q, w, rho, st, st', kvs, S, E, e, q => by
    cases e
    exact q w H [] (Mono.refl w H) S .nil
  | (mk, mv) :: ps, σ, H, Q, w, rho, st, st', kvs, S, E, e, q => by
    obtain ⟨⟨x, s1⟩, e1, e⟩ := bindS e
    obtain ⟨k, e2, e⟩ := bindS e
    obtain ⟨⟨y, s3⟩, e3, e⟩ := bindS e
    cases y with
    | d y =>
      obtain ⟨⟨zs, s4⟩, e4, e⟩ := mapS e
      cases e
      refine ⟨w, rho, st, x, s1, S, E, e1, fun w1 H1 v1 m1 S1 r1 => ⟨w1, rho, s1, .d y, s3, S1, m1.env E, e3, fun w2 H2 v2 m2 S2 r2 => ?_⟩⟩
      refine tPairs_of S2 (m2.env (m1.env E)) e4 fun w3 H3 vs m3 S3 r3 => ?_
      have := q w3 H3 (v2 :: vs) ((m1.trans m2).trans m3) S3 (.cons (m3.toKept.rep r2) r3)
      rw [keyOf_ok r1 e2]
      exact this
    | r n => cases e
    | rr n i => cases e
theorem merge_rep {mu : List Addr} {H : Hp} : ∀ (kvs : List (Key × D)) {vs : List V} {ks : List Key} {ds : List D} {us : List V}, RepL G mu H (kvs.map (·.2)) vs → ks.length = us.length → RepL G mu H ds us →
    ∃ us', mergeK (ks.zip us) ((kvs.map (·.1)).zip vs) = (putAll kvs (ks, ds)).1.zip us' ∧ (putAll kvs (ks, ds)).1.length = us'.length ∧ RepL G mu H (putAll kvs (ks, ds)).2 us'
  | [], _, ks, ds, us, .nil, l, r => ⟨us, rfl, l, r⟩
  | (k, y) :: kvs, _, ks, ds, us, .cons (v := v) (vs := vs) ry rr, l, r => by
    obtain ⟨u1, h1, h2, h3⟩ := put_rep (k := k) l r ry
    obtain ⟨u2, g1, g2, g3⟩ := merge_rep kvs rr h2 h3
    refine ⟨u2, ?_, g2, g3⟩
    refine Eq.trans ?_ g1
    show mergeK (putK (ks.zip us) k v) _ = _
    rw [h1]
    rfl
theorem se_disp {keys : List (Option Expr)} {values : List Expr} {ps : List (EM × EM)} (h : SPs X G pos keys values ps) (hall : keys.all (·.isSome) = true := by rfl) (hl : keys.length = values.length := by rfl) (h0 : keys ≠ [] := by exact fun z => by cases z) (h15 : keys.length ≤ 15 := by decide) : SE X G (.Dict keys values pos) (mDisp ps) := by
  refine ⟨(pe_disp h.pps hall hl h0 h15).imp fun σ H Q h => ?_⟩
  obtain ⟨w, rho, st, c, st', S, E, e, f⟩ := h
  obtain ⟨⟨kvs, s1⟩, e1, e⟩ := bindS e
  split at e
  · rename_i hz
    cases e
    intro p hp
    obtain ⟨SD, MD⟩ := S.reserve (o := .dK []) hp
    have ED : EnvOk G ⟨p :: w.nu, w.io⟩ (upd H p (.dK [])) σ rho := ⟨E.len, fun j x h => by
      obtain ⟨v, h1, h2⟩ := E.get j x h
      refine ⟨v, h1, ?_⟩
      cases x with
      | d x => exact MD.toKept.rep h2
      | r n => exact h2
      | rr n i => exact h2⟩
    refine tPairs_of SD ED e1 fun w2 H2 vs m2 S2 r2 => ?_
    have M2 := MD.step m2
    have hpn : p ∈ w2.nu := by rw [M2.nu]; exact List.mem_cons_self
    have hp2 : H2 p = some (.dK []) := (m2.res p List.mem_cons_self).trans upd_same
    refine ⟨hp2, (kvs.map (·.1)).zip vs, rfl, by rw [List.length_zip, List.length_map]; exact Nat.le_trans (Nat.min_le_left _ _) hz, ?_⟩
    obtain ⟨us', g1, g2, g3⟩ := merge_rep (G := G) (mu := w2.mu) (H := H2) kvs r2 (ks := []) (ds := []) (us := []) rfl .nil
    obtain ⟨S3, K3⟩ := S2.updNu (o := .dK (mergeK [] ((kvs.map (·.1)).zip vs))) hpn
    have M3 : MonoD [p] w w2 H (upd H2 p (.dK (mergeK [] ((kvs.map (·.1)).zip vs)))) := by
      refine ⟨M2.toKept.trans K3, M2.nu, fun a ha => ?_, M2.ext⟩
      have hne : a ≠ p := fun z => by
        subst z
        have nd := (List.nodup_append.mp S2.nd).1
        rw [M2.nu] at nd
        exact (List.nodup_cons.mp nd).1 ha
      rw [upd_ne hne]
      exact M2.res a ha
    obtain ⟨k1, k2, k3⟩ := resNew (c := .dic (putAll kvs ([], [])).1 (putAll kvs ([], [])).2) (p := [p]) (Mono.refl w H) M3 (.refl _) S3 ⟨p, us', rfl, by rw [upd_same]; exact congrArg (fun z => some (HO.dK z)) g1, g2, K3.repL g3⟩
    exact f _ _ _ k1 k2 ⟨[p], k3, fun a q z => by cases z; rfl⟩
  · cases e

/-! ### list(range(..)), len(set(..)) -/
def rgD (lo : Int) (n : Nat) : List D := (List.range n).map fun i => D.int (lo + (i : Nat))
theorem rgD_eq (i j : Int) : (rgD i (j - i).toNat) = ((List.range (j - i).toNat).map fun k => i + ((k : Nat) : Int)).map D.int := by unfold rgD; rw [List.map_map]; rfl
theorem rgV_ints (i j : Int) : rgV i j = ((List.range (j - i).toNat).map fun k => i + ((k : Nat) : Int)).map V.int := by unfold rgV; rw [List.map_map]; rfl
def smallR (i j : Int) : Bool := big62 i && big62 j && decide ((j - i).toNat ≤ lim)
def mLsRg1 (m : EM) : EM := fun rho st => (m rho st).bind fun p => match p.1 with
  | .d (.int n) => if smallR 0 n then some (.d (.lst (rgD 0 (n - 0).toNat)), p.2) else none
  | _ => none
def mLsRg1N (m : EM) : EM := fun rho st => (m rho st).bind fun p => match p.1 with
  | .d (.int n) => if smallR 0 n then some (.r p.2.length, p.2 ++ [.lst (rgD 0 (n - 0).toNat)]) else none
  | _ => none
theorem smallR_ok {i j : Int} (h : smallR i j = true) : RgOk i j := by
  unfold smallR at h
  simp only [Bool.and_eq_true, decide_eq_true_eq] at h
  obtain ⟨⟨h1, h2⟩, h5⟩ := h
  have h1 := big62_ok h1
  have h2 := big62_ok h2
  exact ⟨h1.1, h1.2, h2.1, h2.2, h5⟩
theorem se_lsRg1 {p2 q2 : Pos} (hc : X.calm = true) (hm1 : X.mg "list" = none) (hm2 : X.mg "range" = none) (ha : SE X G a ma) (hg1 : Gl X "list" := by rfl) (hg2 : Gl X "range" := by rfl) (na : starEach [a] X.env = (false, eval a X.env) :: starEach [] X.env := by rfl)
    (nb : starEach [.Call (.Name "range" p2) [a] [] q2] X.env = (false, eval (.Call (.Name "range" p2) [a] [] q2) X.env) :: starEach [] X.env := by rfl) : SE X G (.Call (.Name "list" p) [.Call (.Name "range" p2) [a] [] q2] [] pos) (mLsRg1 ma) := by
  refine ⟨(pe_listRg hc hg1 hm1 (prg_1 hg2 hm2 ha.pe na) nb).imp fun σ H Q h => ?_⟩
  obtain ⟨w, rho, st, c, st', S, E, e, f⟩ := h
  obtain ⟨⟨x, s1⟩, e1, e⟩ := bindS e
  simp only at e
  split at e
  · rename_i n
    split at e
    · rename_i hz
      cases e
      refine ⟨w, rho, st, _, _, S, E, e1, fun w1 H1 v1 m1 S1 r1 => ?_⟩
      cases r1
      refine ⟨n, rfl, smallR_ok hz, fun q hq => ?_⟩
      rw [rgV_ints]
      obtain ⟨m, S', r'⟩ := newLst S1 hq (RepL.of_ints (G := G) (mu := w1.mu) (H := H1) ((List.range (n - 0).toNat).map fun k => 0 + ((k : Nat) : Int)))
      rw [← rgD_eq] at r'
      exact f _ _ _ (m1.trans m) S' r'
    · cases e
  · cases e
theorem se_lsRg1N {p2 q2 : Pos} (hc : X.calm = true) (hm1 : X.mg "list" = none) (hm2 : X.mg "range" = none) (ha : SE X G a ma) (hg1 : Gl X "list" := by rfl) (hg2 : Gl X "range" := by rfl) (na : starEach [a] X.env = (false, eval a X.env) :: starEach [] X.env := by rfl)
    (nb : starEach [.Call (.Name "range" p2) [a] [] q2] X.env = (false, eval (.Call (.Name "range" p2) [a] [] q2) X.env) :: starEach [] X.env := by rfl) : SE X G (.Call (.Name "list" p) [.Call (.Name "range" p2) [a] [] q2] [] pos) (mLsRg1N ma) := by
  refine ⟨(pe_listRg hc hg1 hm1 (prg_1 hg2 hm2 ha.pe na) nb).imp fun σ H Q h => ?_⟩
  obtain ⟨w, rho, st, c, st', S, E, e, f⟩ := h
  obtain ⟨⟨x, s1⟩, e1, e⟩ := bindS e
  simp only at e
  split at e
  · rename_i n
    split at e
    · rename_i hz
      cases e
      refine ⟨w, rho, st, _, s1, S, E, e1, fun w1 H1 v1 m1 S1 r1 => ?_⟩
      cases r1
      refine ⟨n, rfl, smallR_ok hz, fun q hq => ?_⟩
      rw [rgV_ints]
      obtain ⟨m, S', r'⟩ := newLstN S1 hq (RepL.of_ints (G := G) (mu := w1.mu) (H := H1) ((List.range (n - 0).toNat).map fun k => 0 + ((k : Nat) : Int)))
      rw [← rgD_eq] at S'
      exact f _ _ _ (m1.trans m) S' r'
    · cases e
  · cases e
/-- the unlike ones of a list -/
def ddp : List Int → List Int
  | [] => []
  | x :: xs => if x ∈ xs then ddp xs else x :: ddp xs
theorem ddp_mem {j : Int} : ∀ {xs : List Int}, j ∈ ddp xs ↔ j ∈ xs
  | [] => Iff.rfl
  | x :: xs => by
    unfold ddp
    split
    · rename_i h
      rw [ddp_mem, List.mem_cons]
      exact ⟨.inr, fun q => q.elim (fun e => e ▸ h) id⟩
    · rw [List.mem_cons, List.mem_cons, ddp_mem]
theorem ddp_nd : ∀ xs : List Int, (ddp xs).Nodup
  | [] => List.nodup_nil
  | x :: xs => by
    unfold ddp
    split
    · exact ddp_nd xs
    · rename_i h
      exact List.nodup_cons.mpr ⟨fun z => h (ddp_mem.mp z), ddp_nd xs⟩
theorem ddp_id : ∀ {xs : List Int}, xs.Nodup → ddp xs = xs
  | [], _ => rfl
  | x :: xs, h => by
    obtain ⟨h1, h2⟩ := List.nodup_cons.mp h
    unfold ddp
    rw [if_neg h1, ddp_id h2]
def mLenSet (m : EM) : EM := fun rho st => (m rho st).bind fun p => match p.1 with
  | .d (.tup ds) => (intsOf ds).bind fun ns => if ns.length < 1000 then some (.d (.int ((ddp ns).length : Nat)), p.2) else none
  | _ => none
theorem se_lenSet {p2 q2 : Pos} (hc : X.calm = true) (hm1 : X.mg "len" = none) (hm2 : X.mg "set" = none) (ha : SE X G a ma) (hg1 : Gl X "len" := by rfl) (hg2 : Gl X "set" := by rfl) (na : starEach [a] X.env = (false, eval a X.env) :: starEach [] X.env := by rfl) :
    SE X G (.Call (.Name "len" p) [.Call (.Name "set" p2) [a] [] q2] [] pos) (mLenSet ma) := by
  refine ⟨⟨fun pins s σ H Q I h => ?_⟩⟩
  obtain ⟨w, rho, st, c, st', S, E, e, f⟩ := h
  obtain ⟨⟨x, s1⟩, e1, e⟩ := bindS e
  simp only at e
  split at e
  · rename_i ds
    obtain ⟨ns, e2, e⟩ := bindS e
    split at e
    · rename_i hz
      cases e
      refine Call_ (ld_blt I hg1 hm1 boot_len ?_)
      refine PyProof.Rows.callWith_builtin1 (PyProof.Rows.args_cons ?_ rfl) rfl rfl
      refine Call_ (ld_blt I hg2 hm2 PyProof.Rows.boot_set ?_)
      refine PyProof.Rows.callWith_type1 (PyProof.Rows.args_cons (thn (ha.pe.run pins s σ H (fun v H1 => ∃ w1, Mono w w1 H H1 ∧ StOk G w1 H1 _ ∧ RepV G w1 H1 (.d (.tup ds)) v) I ⟨w, rho, st, _, _, S, E, e1, fun w1 H1 v1 m1 S1 r1 => ⟨w1, m1, S1, r1⟩⟩) fun v s1 ⟨x, H1, I1, r1, w1, m1, S1, q1⟩ => PyProof.Rows.args_nil ?_) na) na rfl
      obtain ⟨l, o', vs, rfl, k1, k2, k3, k4⟩ := repTup q1
      rw [intsOf_eq e2] at k4
      have kv := k4.ints
      subst kv
      cases r1
      obtain ⟨its, r, pl, hz2⟩ := I1.tuple (.inl (.inr ⟨_, k1⟩))
      refine call_set_tupI ns (I1.ok.hd hc) (show s1.heap.IsTuple l its.toArray from pl) (by simpa using RZ.intsAre_vals r) (by unfold scanBound; omega) fun h' tk c R1 hcn k => ?_
      refine PyProof.Rows.args_nil ?_
      obtain ⟨o, es, ep, t, ho, hex, hdt, g, nd, hm2, hb, hf, hn, hr, hl2⟩ := R1
      have I2 : Inv X pins σ H1 { s1 with heap := h', toks := tk } := I1.kept fun b o e => k b o e
      have hcard : es.size = (ddp ns).length := by
        have p1 : (es.toList.map L2.keyOf).Perm (ddp ns) := (List.perm_ext_iff_of_nodup nd (ddp_nd ns)).mpr fun j => by
          rw [← hm2 j, ddp_mem, decide_eq_true_eq]
        have := p1.length_eq
        rw [List.length_map, Array.length_toList] at this
        exact this
      refine call_len_set ho hex hdt hf (by omega) ⟨.int (ddp ns).length, H1, I2.tok _, ⟨_, by rw [hcard]⟩, (f.from m1).now S1 (.int _)⟩
    · cases e
  · cases e

/-! ### x[::-1] -/
theorem adjust_rev (n : Nat) : Builtin.Slice.sliceAdjust none none (-1) (n : Int) = ((n : Int) - 1, -1) := by
  unfold Builtin.Slice.sliceAdjust
  simp
theorem places_rev (n : Nat) : Builtin.Slice.slicePlaces ((n : Int) - 1) (-1) (-1) = n := by
  unfold Builtin.Slice.slicePlaces
  have h1 : ¬ ((-1 : Int) > 0) := by omega
  simp only [h1, if_false]
  split
  · rw [show (-(-1 : Int)) = 1 by decide, Int.ediv_one]; omega
  · omega
theorem pick_rev (xs : Array Value) : ((List.range xs.size).filterMap fun (m : Nat) => xs[(((xs.size : Nat) : Int) - 1 + (m : Int) * (-1)).toNat]?) = xs.toList.reverse := by
  have h1 : ((List.range xs.size).filterMap fun (m : Nat) => xs[(((xs.size : Nat) : Int) - 1 + (m : Int) * (-1)).toNat]?) = ((List.range xs.size).map fun k => xs.size - 1 - k).filterMap (xs[·]?) := by
    rw [List.filterMap_map]
    have e0 : (fun (m : Nat) => xs[(((xs.size : Nat) : Int) - 1 + (m : Int) * (-1)).toNat]?) = (fun x => xs[x]?) ∘ fun k => xs.size - 1 - k := by
      funext m
      show _ = xs[xs.size - 1 - m]?
      have e : (((xs.size : Nat) : Int) - 1 + (m : Int) * (-1)).toNat = xs.size - 1 - m := by omega
      rw [e]
    rw [e0]
  rw [h1, PySem.W.krv_range, List.filterMap_reverse, PySem.W.krv_all]
theorem tuple_rev {prog : Program} {w : World} {A : Around} {E : Value → Shared → Prop} {s : Shared} {t sl : Addr} {items : Array Value} {vs : Value} {Q : Value → Shared → Prop} (ht : IsTup s.heap t items) (hs : s.heap.IsSliceOf sl .none .none vs) (ps : IsPart vs (some (-1)))
    (h : Q (.ref s.heap.objs.size) { s with heap := s.heap.push { cls := .type "tuple", data := .seq items.toList.reverse.toArray } }) (hsz : items.size ≤ sizeLine) : wpAny (model prog w) A (getItem (.ref t) (.ref sl)) Q E s := by
  have htake : sizeOk (.seq items.toList.reverse.toArray) := by
    show items.toList.reverse.toArray.size ≤ sizeLine
    rw [List.size_toArray, List.length_reverse, Array.length_toList]
    exact hsz
  obtain ⟨os, hos, hcs, hds⟩ := id hs
  have hTs : s.TypeIs (.ref sl) "slice" := ⟨os, hos, hcs⟩
  unfold getItem
  try with_reducible refine wpAny_holding ?_
  first | refine wpAny_bind (wpAny_pure ?_) | skip
  refine wpAny_bind (wpAny_sequenceKey ht.typeIs (by decide) ?_)
  refine wpAny_bind (wpAny_callSpecial?_slot (name := Str.ofString "__getitem__") ht.typeIs PyProof.Rows.slot_tuple_getitem
    (wpAny_call_entry PyProof.Rows.slot_tuple_getitem ht.typeIs entry_tuple_getitem ?_ (args_tuple_getitem _ _)))
  show wpAny _ _ (Builtin.Tuple.tupleItemsOf (.ref t) >>= _) _ _ s
  refine wpAny_bind (tupleItemsOf_ ht ?_)
  refine wpAny_bind (wpAny_typeOf hTs ?_)
  rw [if_pos (by decide)]
  have happ : ∀ {B : Around} {R : Int × Int × Nat → Shared → Prop} {E : Value → Shared → Prop}, R (((items.size : Nat) : Int) - 1, -1, items.size) s → wpAny (model prog w) B (Builtin.Slice.sliceApplied (.ref sl) (pure ((items.size : Nat) : Int))) R E s := fun {B R E} hR => by
    unfold Builtin.Slice.sliceApplied Builtin.Slice.sliceFields
    refine wpAny_bind (wpAny_bind (wpAny_field hos hds (x := .none) rfl (wpAny_bind (wpAny_field hos hds (x := .none) rfl (wpAny_bind (wpAny_field hos hds (x := vs) rfl (wpAny_pure ?_)))))))
    refine wpAny_bind (HT.slicePart_ ps ?_)
    show wpAny _ _ (if ((-1 : Int) == 0) = true then _ else _) _ _ s
    rw [if_neg (by decide)]
    refine wpAny_bind (slicePart_none (wpAny_bind (slicePart_none (wpAny_bind (wpAny_pure ?_)))))
    show wpAny _ _ (match Builtin.Slice.sliceAdjust none none (-1) ((items.size : Nat) : Int) with | (lo, hi) => pure (lo, (-1 : Int), Builtin.Slice.slicePlaces lo hi (-1))) _ _ s
    rw [adjust_rev]
    show wpAny _ _ (pure (((items.size : Nat) : Int) - 1, (-1 : Int), Builtin.Slice.slicePlaces (((items.size : Nat) : Int) - 1) (-1) (-1))) _ _ s
    rw [places_rev]
    exact wpAny_pure hR
  refine wpAny_bind (happ ?_)
  have hno : ¬ (((((items.size : Nat) : Int) - 1) == 0 && (-1 : Int) == 1 && items.size == items.size) = true) := by simp
  show wpAny _ _ (if ((((items.size : Nat) : Int) - 1) == 0 && (-1 : Int) == 1 && items.size == items.size) = true then _ else _) _ _ s
  rw [if_neg hno, pick_rev]
  first
    | exact wpAny_bind (m := Builtin.Tuple.tupleExact _) (wpAny_newObj_type (wpAny_pure ⟨_, rfl, wpAny_pure h⟩) htake)
    | exact wpAny_bind (m := Builtin.Tuple.tupleExact _) (wpAny_newObj_type (wpAny_bind (wpAny_pure (wpAny_pure ⟨_, rfl, wpAny_pure h⟩))) htake)
    | exact wpAny_bind (wpAny_bind (m := Builtin.Tuple.tupleExact _) (wpAny_newObj_type (wpAny_pure (wpAny_pure ⟨_, rfl, wpAny_pure h⟩)) htake))
    | exact wpAny_bind (wpAny_bind (m := Builtin.Tuple.tupleExact _) (wpAny_newObj_type (wpAny_pure ⟨_, rfl, wpAny_pure h⟩) htake))
def revV (st : Store) : Vl → Option Vl
  | .d (.tup ds) => some (.d (.tup ds.reverse))
  | x => (lstOf st x).map fun ds => .d (.lst ds.reverse)
theorem pe_revT {k : Nat} {p1 p2 p3 : Pos} {te : TE} (he : PE X e te) : PE X (.Subscript e (.Slice none none (some (.UnaryOp .USub (.Constant (.int 1) k p1) p2)) p3) pos)
    (fun σ H Q => te σ H fun x H1 => ∃ a xs, x = .ref a ∧ SqT X.K H1 a xs ∧ ∀ p o, H1 p = none → o.dict = none → Q (.ref p) (upd H1 p (.frz o (.tup xs.reverse)))) := by
  refine ⟨fun pins s σ H Q I h => ?_⟩
  refine Subscript_ (thn (he.run pins s σ H _ I h) fun v s1 ⟨x, H1, I1, r1, q1⟩ => ?_)
  obtain ⟨a, xs, ex, hx, q⟩ := q1
  subst ex
  cases r1
  have hst : PO X (some (.UnaryOp .USub (.Constant (.int 1) k p1) p2)) (tPart (tUn (rU fun i => .int (-i)) (tC (.int 1)))) := po_some (pe_un un_neg pe_int)
  refine wpAny_Slice ?_
  rw [evalPart_none]
  refine wpAny_pure (wpAny_pure ?_)
  refine thn (hst.run pins s1 σ H1 (fun o H4 => o = some (-1) ∧ H4 = H1) I1 ⟨1, rfl, -1, rfl, rfl, rfl⟩) fun vs s4 ⟨o, H4, I4, ps, eo, e4⟩ => ?_
  subst eo e4
  have I5 : Inv X pins σ H4 { s4 with heap := s4.heap.push { cls := .type "slice", data := .fields #[.none, .none, vs] } } := I4.kept (t' := s4.toks) fun b ob q => Heap.get?_push_of_some _ q
  obtain ⟨its, r, ht, hz⟩ := I5.tuple hx
  have hlen := r.length
  show wpAny (model X.prog X.w) X.A (subscriptTail e (.Slice none none (some (.UnaryOp .USub (.Constant (.int 1) k p1) p2)) p3) (.ref a) (.ref s4.heap.objs.size)) (EP X pins σ Q) X.xe { s4 with heap := s4.heap.push { cls := .type "slice", data := .fields #[.none, .none, vs] } }
  refine tail_any (ops := [.ref a, .ref s4.heap.objs.size]) ht.typeIs (PyProof.Rows.slot_tuple_getitem.lookup) ?_ (by with_unfolding_all rfl)
  exact tuple_rev ht (Heap.IsSliceOf.new _ .none .none vs) ps (by simpa using tupLaid I5 r.reverse (by rw [List.length_reverse]; exact hz) q) (by rw [List.size_toArray]; omega)
theorem se_rev {k : Nat} {p1 p2 p3 : Pos} (ha : SE X G a ma) : SE X G (.Subscript a (.Slice none none (some (.UnaryOp .USub (.Constant (.int 1) k p1) p2)) p3) pos) (mUn revV ma) := by
  refine ⟨((pe_revL ha.pe).or (pe_revT ha.pe)).imp fun σ H Q h => ?_⟩
  obtain ⟨w, rho, st, c, st', S, E, e, f⟩ := h
  obtain ⟨⟨x, s1⟩, e1, e⟩ := bindS e
  obtain ⟨z, e3, e⟩ := mapS e
  cases e
  unfold revV at e3
  split at e3
  · rename_i ds hx
    cases hx
    cases e3
    refine .inr ⟨w, rho, st, _, _, S, E, e1, fun w1 H1 v1 m1 S1 r1 => ?_⟩
    obtain ⟨l, o', vs, rfl, k1, k2, k3, k4⟩ := repTup r1
    refine ⟨l, vs, rfl, .inl (.inr ⟨_, k1⟩), fun p o hp ho => ?_⟩
    obtain ⟨m, S', r'⟩ := newTup S1 hp ho k4.reverse
    exact f _ _ _ (m1.trans m) S' r'
  · obtain ⟨ds, h1, h2⟩ := mapS e3
    cases h2
    refine .inl ⟨w, rho, st, _, _, S, E, e1, fun w1 H1 v1 m1 S1 r1 => ?_⟩
    obtain ⟨p, vs, rfl, k1, k2⟩ := lstOf_ok S1 r1 h1
    refine ⟨p, vs, rfl, SqL.of k1, fun p hp => ?_⟩
    obtain ⟨m, S', r'⟩ := newLst S1 hp k2.reverse
    exact f _ _ _ (m1.trans m) S' r'
end
end Mini

set_option Elab.async false
set_option linter.all false
set_option maxRecDepth 100000
namespace Mini
open PySem PySem.Spec PyProof.Rows L2

section
variable {X : Cx} {G : Sit} {e a b c tg iter o : Expr} {es : List Expr} {m ma mb mo mi mv : EM} {mas : AM} {pos p apos cpos : Pos} {ms ms' : SM} {x : Str}

/-! ### sorted(d), a dict's whole-number keys -/
def keysI : List Key → Option (List Int)
  | [] => some []
  | .inl i :: ks => (keysI ks).map (i :: ·)
  | _ :: _ => none
theorem keysI_eq : ∀ {ks : List Key} {ns : List Int}, keysI ks = some ns → ks = ns.map Sum.inl
  | [], _, h => by cases h; rfl
  | .inl i :: ks, ns, h => by
    obtain ⟨m, h1, h2⟩ := mapS h
    subst h2
    rw [keysI_eq h1]
    rfl
  | .inr _ :: _, _, h => by cases h
theorem keysI_map : ∀ (ns : List Int), keysI (ns.map Sum.inl) = some ns
  | [] => rfl
  | n :: ns => by
    show (keysI (ns.map Sum.inl)).map (n :: ·) = _
    rw [keysI_map ns]
    rfl
def sortDV (st : Store) (x : Vl) : Option Vl := (dicOf st x).bind fun kd => (keysI kd.1).bind fun ns => if ns.length < 64 then some (.d (.lst ((sortI ns).map D.int))) else none
theorem map_zip_fst {α β : Type} : ∀ {ks : List α} {vs : List β}, ks.length = vs.length → (ks.zip vs).map (·.1) = ks
  | [], _, _ => rfl
  | _ :: _, [], l => by simp at l
  | k :: ks, v :: vs, l => by
    rw [List.zip_cons_cons, List.map_cons, map_zip_fst (by simpa using l)]
theorem bi_sortedD (hc : X.calm = true) : CallR X (.builtin "sorted") (rVs G (one sortDV)) := call_one (call_sortedDI hc) fun w H st a c v Q S r e q => by
  obtain ⟨⟨ks, ds⟩, h1, h2⟩ := bindS e
  obtain ⟨ns, h3, h4⟩ := bindS h2
  split at h4
  · rename_i hl
    cases h4
    obtain ⟨p, vs, rfl, k1, l, k2⟩ := dicOf_ok S r h1
    refine ⟨p, _, ns, rfl, .inl k1, by rw [map_zip_fst l]; exact keysI_eq h3, hl, fun ns' l' hp hs hl' => ?_⟩
    have : ns' = sortI ns := sort_unique (hp.trans (sortI_perm ns).symm) hs (sortI_sorted ns)
    subst this
    obtain ⟨m, S', r'⟩ := newLst S hl' (RepL.of_ints (G := G) (mu := w.mu) (H := H) (sortI ns))
    exact q _ _ _ m S' r'
  · cases h4

/-! ### a list of lists that may change -/
def lcLoopG (g : GM) (t : TM) (m : EM) (rho : Rho) : List Itm → Store → Option (List (List D) × Store)
  | [], st => some ([], st)
  | it :: its, st => (g it rho).bind fun rho1 => (t rho1 st).bind fun p => if p.1 then (m rho1 p.2).bind fun q => match q.1, q.2.getLast? with
      | .r n, some (.lst ds) => if q.2.length = n + 1 ∧ p.2.length = n then (lcLoopG g t m rho its (q.2.take n)).map fun r => (ds :: r.1, r.2) else none
      | _, _ => none
    else lcLoopG g t m rho its p.2
def mLcG (mi : IM) (g : GM) (own : List Nat) (t : TM) (m : EM) : EM := fun rho st => (mi rho st).bind fun p => if p.1.length ≤ lim then (lcLoopG g t m (unsetR rho own) p.1 p.2).map fun q => (.r q.2.length, q.2 ++ [.grid q.1]) else none
/-- the newest thing is reserved -/
theorem StOk.unpush {w : Wd} {H : Hp} {st : Store} {n : Nat} {ds : List D} {v : V} (S : StOk G w H st) (hn : st.length = n + 1) (hc : st.getLast? = some (.lst ds)) (r : RepV G w H (.r n) v) :
    ∃ b vs, v = .ref b ∧ H b = some (.lst vs) ∧ RepL G (⟨b :: w.nu, w.io.take n⟩ : Wd).mu H ds vs ∧ StOk G ⟨b :: w.nu, w.io.take n⟩ H (st.take n) ∧ Kept w.mu (⟨b :: w.nu, w.io.take n⟩ : Wd).mu H H := by
  have hn2 : n < st.length := by omega
  have hcn : st[n]? = some (.lst ds) := by
    rw [List.getLast?_eq_getElem?, hn] at hc
    exact hc
  obtain ⟨q, hq, hv⟩ := r
  obtain ⟨b, vs, rfl, e1, r1⟩ := S.cell n _ q hcn hq
  have hil : w.io.length = n + 1 := by rw [← S.len]; exact hn
  have eio : w.io = w.io.take n ++ [[b]] := by
    have h1 := List.take_append_drop n w.io
    have h2 : w.io.drop n = [[b]] := by
      rw [List.drop_eq_getElem_cons (by omega)]
      have h3 : w.io[n]'(by omega) = [b] := (List.getElem?_eq_some_iff.mp hq).2
      rw [h3, List.drop_eq_nil_of_le (by omega)]
    rw [h2] at h1
    exact h1.symm
  have pm : w.mu.Perm (⟨b :: w.nu, w.io.take n⟩ : Wd).mu := by
    have e : w.mu = (w.nu ++ (w.io.take n).flatten) ++ [b] := by
      unfold Wd.mu
      have e9 : w.io.flatten = (w.io.take n).flatten ++ [b] := by
        have := congrArg List.flatten eio
        rw [List.flatten_append] at this
        simpa using this
      rw [e9, List.append_assoc]
    rw [e]
    exact List.perm_append_comm
  have k : Kept w.mu (⟨b :: w.nu, w.io.take n⟩ : Wd).mu H H := ⟨fun _ _ h _ => h, fun a _ _ nn z => nn (pm.mem_iff.mpr z)⟩
  refine ⟨b, vs, hv b [] rfl, e1, k.repL r1, ⟨?_, pm.nodup_iff.mp S.nd, fun a h => ?_, fun j c p h1 h2 => ?_⟩, k⟩
  · rw [List.length_take, List.length_take, S.len]
  · rcases List.mem_cons.mp h with h | h
    · subst h; exact ⟨_, e1⟩
    · exact S.res a h
  · have h2' : (w.io.take n)[j]? = some p := h2
    by_cases hj : j < n
    · rw [List.getElem?_take_of_lt hj] at h1 h2'
      exact (S.cell j c p h1 h2').kept k fun _ _ => rfl
    · rw [List.getElem?_take_eq_none (by omega)] at h1
      cases h1
/-- rows as they lie -/
def RowsOk (G : Sit) (mu : List Addr) (H : Hp) (rs : List (List D)) (bs : List Addr) : Prop := bs.length = rs.length ∧ ∀ (i : Nat) (b : Addr) (ds : List D), bs[i]? = some b → rs[i]? = some ds → ∃ vs, H b = some (.lst vs) ∧ RepL G mu H ds vs
theorem RowsOk.kept {mu mu' : List Addr} {H H' : Hp} {rs : List (List D)} {bs : List Addr} (h : RowsOk G mu H rs bs) (k : Kept mu mu' H H') (s : ∀ b ∈ bs, H' b = H b) : RowsOk G mu' H' rs bs := ⟨h.1, fun i b ds h1 h2 => by
  obtain ⟨vs, e, r⟩ := h.2 i b ds h1 h2
  exact ⟨vs, (s b (List.mem_of_getElem? h1)).trans e, k.repL r⟩⟩
theorem RowsOk.snoc {mu : List Addr} {H : Hp} {rs : List (List D)} {bs : List Addr} (h : RowsOk G mu H rs bs) {b : Addr} {ds : List D} {vs : List V} (e : H b = some (.lst vs)) (r : RepL G mu H ds vs) : RowsOk G mu H (rs ++ [ds]) (bs ++ [b]) := by
  refine ⟨by simp [h.1], fun i c es h1 h2 => ?_⟩
  by_cases hi : i < bs.length
  · rw [List.getElem?_append_left hi] at h1
    rw [List.getElem?_append_left (by rw [← h.1]; exact hi)] at h2
    exact h.2 i c es h1 h2
  · rw [List.getElem?_append_right (by omega)] at h1
    rw [List.getElem?_append_right (by rw [← h.1]; omega)] at h2
    have h0 : i - bs.length = 0 := by
      have := (List.getElem?_eq_some_iff.mp h1).1
      simp at this
      exact this
    rw [h0] at h1
    rw [← h.1, h0] at h2
    simp at h1 h2
    subst h1
    subst h2
    exact ⟨vs, e, r⟩
theorem tLcG_of {sl own : List Nat} {g : GM} {t : TM} (hsl : ∀ j ∈ sl, j ∈ own) {im : IM} {σ : L2.St} {H : Hp} {Q : VK} {w : Wd} {rho : Rho} {st : Store} {its : List Itm} {s1 s2 : Store} {ys : List (List D)}
    (S : StOk G w H st) (E : EnvOk G w H σ rho) (e1 : im rho st = some (its, s1)) (hz : its.length ≤ lim) (e2 : lcLoopG g t m (unsetR rho own) its s1 = some (ys, s2))
    (q : ∀ w1 H1 D bs w2 H2, Mono w w1 H H1 → MonoD (bs.reverse ++ [D]) w1 w2 H1 H2 → StOk G w2 H2 s2 → H2 D = some (.lst (bs.map V.ref)) → RowsOk G w2.mu H2 ys bs → Q (.ref D) H2) : tLc (tI G im) (tG G sl g) (tT G t) (tE G m) own σ H Q := by
  refine ⟨w, rho, st, its, s1, S, E, e1, fun w1 H1 J m1 S1 K1 D hD => ?_⟩
  obtain ⟨SD, MD⟩ := S1.reserve (o := .lst []) hD
  have E1 : EnvOk G w1 H1 (wipe σ own) (unsetR rho own) := (m1.env E).unset own
  refine ⟨fun i k H2 => i + k = its.length ∧ ∃ w2 st2 acc bs rest, MonoD (bs.reverse ++ [D]) w1 w2 H1 H2 ∧ StOk G w2 H2 st2 ∧ H2 D = some (.lst (bs.map V.ref)) ∧ RowsOk G w2.mu H2 acc bs ∧ acc.length ≤ i ∧ lcLoopG g t m (unsetR rho own) (its.drop i) st2 = some (rest, s2) ∧ acc ++ rest = ys,
    ⟨its.length, by omega, _, s1, [], [], ys, MD, SD, upd_same, ⟨rfl, fun i b ds h => by simp at h⟩, Nat.le_refl _, e2, rfl⟩, ?_⟩
  rintro i k H2 ⟨hk, w2, st2, acc, bs, rest, M2, S2, hD2, ra, hl, e3, e4⟩
  obtain ⟨k1, k2⟩ := K1 i w2 H2 st2 M2.toKept S2
  have hDn : D ∈ w2.nu := by rw [M2.nu]; exact List.mem_append_left _ (List.mem_append_right _ (List.mem_singleton.mpr rfl))
  have hbn2 : ∀ b ∈ bs, b ∈ w2.nu := fun b hb => by rw [M2.nu]; exact List.mem_append_left _ (List.mem_append_left _ (List.mem_reverse.mpr hb))
  by_cases hlt : i < its.length
  · rw [List.drop_eq_getElem_cons hlt] at e3
    obtain ⟨go, k3⟩ := k2 its[i] (List.getElem?_eq_getElem hlt)
    obtain ⟨rho3, e5, e3⟩ := bindS e3
    obtain ⟨⟨c, s5⟩, e6, e3⟩ := bindS e3
    refine .inr ⟨go, fun H5 => ∃ w5 st5 acc bs rest, MonoD (bs.reverse ++ [D]) w1 w5 H1 H5 ∧ StOk G w5 H5 st5 ∧ H5 D = some (.lst (bs.map V.ref)) ∧ RowsOk G w5.mu H5 acc bs ∧ acc.length ≤ i + 1 ∧ lcLoopG g t m (unsetR rho own) (its.drop (i + 1)) st5 = some (rest, s2) ∧ acc ++ rest = ys,
      fun H5 h5 => ⟨k - 1, by omega, by omega, h5⟩, fun v H3 y => ?_⟩
    obtain ⟨m3, S3, r3⟩ := k3 v H3 y
    have M3 := M2.step m3
    have hD3 : H3 D = some (.lst (bs.map V.ref)) := (m3.res D hDn).trans hD2
    have ra3 := ra.kept m3.toKept fun b hb => m3.res b (hbn2 b hb)
    have E3 : EnvOk G w2 H3 (wipe σ own) (unsetR rho own) := ⟨E1.len, fun j x h => by
      obtain ⟨v, h1, h2⟩ := E1.get j x h
      refine ⟨v, h1, ?_⟩
      cases x with
      | d x => exact M3.toKept.rep h2
      | r n =>
        obtain ⟨p, e, q⟩ := h2
        rcases M3.ext n p e with e | e
        · exact ⟨p, e, q⟩
        · exact ⟨[], e, fun a q z => by cases z⟩
      | rr n i =>
        obtain ⟨p, e, q⟩ := h2
        rcases M3.ext n p e with e | e
        · exact ⟨p, e, q⟩
        · exact ⟨[], e, fun a q b z => by cases z⟩⟩
    refine ⟨w2, unsetR rho own, st2, its[i], rho3, S3, E3, r3, e5, fun σ4 E4 kj kl => ⟨wipe_eq hsl kj kl, w2, rho3, st2, c, s5, S3, E4, e6, fun w5 H5 m5 S5 => ?_⟩⟩
    have M5 := M3.step m5
    have hD5 : H5 D = some (.lst (bs.map V.ref)) := (m5.res D hDn).trans hD3
    have ra5 := ra3.kept m5.toKept fun b hb => m5.res b (hbn2 b hb)
    cases c with
    | false =>
      rw [if_neg Bool.false_ne_true] at e3
      refine iteF ?_
      exact ⟨w5, s5, acc, bs, rest, M5, S5, hD5, ra5, by omega, e3, e4⟩
    | true =>
      rw [if_pos rfl] at e3
      refine iteT ?_
      obtain ⟨⟨x, s6⟩, e7, e3⟩ := bindS e3
      refine ⟨w5, rho3, s5, x, s6, S5, m5.env E4, e7, fun w6 H6 v6 m6 S6 r6 => ?_⟩
      simp only at e3
      split at e3
      · rename_i n ds hlast
        split at e3
        · rename_i hlen
          obtain ⟨⟨rest', s7⟩, e8, e3⟩ := mapS e3
          cases e3
          have M6 := M5.step m6
          have nu5 : w5.nu = bs.reverse ++ [D] ++ w1.nu := M5.nu
          have hD5n : D ∈ w5.nu := by rw [nu5]; simp
          have hb5n : ∀ b ∈ bs, b ∈ w5.nu := fun b hb => by rw [nu5]; simp [hb]
          have hD6 : H6 D = some (.lst (bs.map V.ref)) := (m6.res D hD5n).trans hD5
          have ra6 := ra5.kept m6.toKept fun b hb => m6.res b (hb5n b hb)
          obtain ⟨b, vs, rfl, hb6, rb, S7, K7⟩ := S6.unpush hlen.1 hlast r6
          have ra7 := (ra6.kept K7 fun _ _ => rfl).snoc hb6 rb
          have hn5 : w5.io.length = n := by rw [← S5.len]; exact hlen.2
          have hne : b ≠ D := fun z => by
            subst z
            have nd := (List.nodup_append.mp S7.nd).1
            exact (List.nodup_cons.mp nd).1 (by rw [M6.nu]; simp)
          refine ⟨bs.map V.ref, hD6, ?_, ?_⟩
          · rw [List.length_map, ra6.1, lim_eq]
            omega
          · obtain ⟨S8, K8⟩ := S7.updNu (D := D) (o := .lst (bs.map V.ref ++ [V.ref b])) (by show D ∈ b :: w6.nu; rw [M6.nu]; simp)
            have nb : ∀ c ∈ bs ++ [b], c ≠ D := fun c hc z => by
              subst z
              rcases List.mem_append.mp hc with hc | hc
              · have nd := (List.nodup_append.mp S6.nd).1
                rw [M6.nu, List.append_assoc] at nd
                exact (List.nodup_append.mp nd).2.2 c (List.mem_reverse.mpr hc) c (by simp) rfl
              · exact hne (List.mem_singleton.mp hc).symm
            refine ⟨⟨b :: w6.nu, w6.io.take n⟩, s6.take n, acc ++ [ds], bs ++ [b], rest', ⟨(M6.toKept.trans K7).trans K8, ?_, fun a ha => ?_, fun j p hp => ?_⟩, S8, ?_, ra7.kept K8 fun c hc => upd_ne (nb c hc), by simp; omega, e8, by rw [List.append_assoc]; exact e4⟩
            · show b :: w6.nu = _
              rw [M6.nu]
              simp
            · have hne2 : a ≠ D := fun z => by
                subst z
                have nd := (List.nodup_append.mp S6.nd).1
                rw [M6.nu] at nd
                exact (List.nodup_append.mp nd).2.2 a (by simp) a ha rfl
              rw [upd_ne hne2]
              exact M6.res a ha
            · have hj : j < n := by
                rcases M5.ext j p hp with e | e
                · rw [← hn5]; exact (List.getElem?_eq_some_iff.mp e).1
                · rw [← hn5]; exact (List.getElem?_eq_some_iff.mp e).1
              show (w6.io.take n)[j]? = _ ∨ (w6.io.take n)[j]? = _
              rw [List.getElem?_take_of_lt hj]
              exact M6.ext j p hp
            · rw [upd_same, List.map_append]
              rfl
        · cases e3
      · cases e3
  · rw [List.drop_eq_nil_of_le (by omega)] at e3
    cases e3
    refine .inl ⟨k1 (by omega), q w1 H1 D bs _ H2 m1 M2 S2 hD2 ?_⟩
    rw [List.append_nil] at e4
    rw [← e4]
    exact ra
theorem lcG_new {w w1 w2 : Wd} {H H1 H2 : Hp} {D : Addr} {bs : List Addr} {st : Store} {ys : List (List Mini.D)} (m1 : Mono w w1 H H1) (M2 : MonoD (bs.reverse ++ [D]) w1 w2 H1 H2) (S : StOk G w2 H2 st) (h : H2 D = some (.lst (bs.map V.ref))) (r : RowsOk G w2.mu H2 ys bs) :
    Mono w ⟨w1.nu, w2.io ++ [D :: bs]⟩ H H2 ∧ StOk G ⟨w1.nu, w2.io ++ [D :: bs]⟩ H2 (st ++ [.grid ys]) ∧ RepV G ⟨w1.nu, w2.io ++ [D :: bs]⟩ H2 (.r st.length) (.ref D) := by
  obtain ⟨k1, k2, k3⟩ := resNew (c := .grid ys) (p := D :: bs) m1 M2 ((List.Perm.cons D (List.reverse_perm bs).symm).trans (List.perm_append_comm (l₁ := [D]))) S ⟨D, bs, rfl, h, r.1, r.2⟩
  exact ⟨k1, k2, D :: bs, k3, fun a q z => by cases z; rfl⟩
theorem ss_setLcG (i : Nat) {y : Str} {py spos : Pos} {ifs : List Expr} {scope : Scope} {own : List (Str × Nat)} {im : IM} {sl : List Nat} {g : GM} {t : TM} (hc : X.calm = true) (hN : X.N.Nodup)
    (hi : SI X G tg iter im) (ok : blkC X.N X.env.scope scope own = true)
    (hg : ∀ (s : Shared) (H : Hp) (C : Addr) (cl : List (Str × Addr)) (fp : List Addr), SG (X.blk s H scope (compEnvC scope cl C X.env) fp) G tg sl g) (ht : ∀ (s : Shared) (H : Hp) (C : Addr) (cl : List (Str × Addr)) (fp : List Addr), STs (X.blk s H scope (compEnvC scope cl C X.env) fp) G ifs t)
    (he : ∀ (s : Shared) (H : Hp) (C : Addr) (cl : List (Str × Addr)) (fp : List Addr), SE (X.blk s H scope (compEnvC scope cl C X.env) fp) G e m) (hy : X.N[i]? = some y := by rfl) (hyl : X.env.scope.names.lookup y = some .local := by rfl)
    (hsw : swapsWith (.ListComp e [⟨tg, iter, ifs, 0⟩] scope pos) (some (.Name y py)) spos.line X.env = pure true := by exact sw_true rfl rfl rfl (by decide +kernel)) (hsl : ∀ j ∈ sl, j ∈ own.map (·.2) := by decide) (hs : ∀ x, foldedSetIterable iter X.env x = pure x := by intro _; rfl) :
    SS X G (.Assign [.Name y py] (.ListComp e [⟨tg, iter, ifs, 0⟩] scope pos) spos) (mSet i (mLcG im g (own.map (·.2)) t m)) := by
  refine ⟨(ps_setLc hc hN hy hyl hsw hi.pi (blkOk_by ok) (fun s H C cl fp => (hg s H C cl fp).pg) (fun s H C cl fp => (ht s H C cl fp).pts) (fun s H C cl fp => (he s H C cl fp).pe) hs).imp fun D σ H h => ?_⟩
  obtain ⟨w, rho, st, f, rho', st', S, E, e, q⟩ := h
  obtain ⟨⟨x, s1⟩, e1, e⟩ := mapS e
  cases e
  obtain ⟨⟨its, s3⟩, e3, e1⟩ := bindS e1
  split at e1
  · rename_i hz
    obtain ⟨⟨ys, s2⟩, e2, e1⟩ := mapS e1
    cases e1
    refine tLcG_of hsl S E e3 hz e2 fun w1 H1 L bs w2 H2 m1 M2 S2 hD2 r => ?_
    obtain ⟨k1, k2, k3⟩ := lcG_new m1 M2 S2 hD2 r
    exact q _ _ k1 k2 _ ((k1.env E).set k3 i)
  · cases e1
theorem se_lcG {ifs : List Expr} {scope : Scope} {own : List (Str × Nat)} {im : IM} {sl : List Nat} {g : GM} {t : TM} (hc : X.calm = true) (hN : X.N.Nodup) (hi : SI X G tg iter im) (ok : blkC X.N X.env.scope scope own = true)
    (hg : ∀ (s : Shared) (H : Hp) (C : Addr) (cl : List (Str × Addr)) (fp : List Addr), SG (X.blk s H scope (compEnvC scope cl C X.env) fp) G tg sl g) (ht : ∀ (s : Shared) (H : Hp) (C : Addr) (cl : List (Str × Addr)) (fp : List Addr), STs (X.blk s H scope (compEnvC scope cl C X.env) fp) G ifs t)
    (he : ∀ (s : Shared) (H : Hp) (C : Addr) (cl : List (Str × Addr)) (fp : List Addr), SE (X.blk s H scope (compEnvC scope cl C X.env) fp) G e m) (hsl : ∀ j ∈ sl, j ∈ own.map (·.2) := by decide) (hs : ∀ x, foldedSetIterable iter X.env x = pure x := by intro _; rfl) :
    SE X G (.ListComp e [⟨tg, iter, ifs, 0⟩] scope pos) (mLcG im g (own.map (·.2)) t m) := by
  refine ⟨(pe_lc hc hN hi.pi (blkOk_by ok) (fun s H C cl fp => (hg s H C cl fp).pg) (fun s H C cl fp => (ht s H C cl fp).pts) (fun s H C cl fp => (he s H C cl fp).pe) hs).imp fun σ H Q h => ?_⟩
  obtain ⟨w, rho, st, c, st', S, E, e, f⟩ := h
  obtain ⟨⟨its, s1⟩, e1, e⟩ := bindS e
  split at e
  · rename_i hz
    obtain ⟨⟨ys, s2⟩, e2, e⟩ := mapS e
    cases e
    refine tLcG_of hsl S E e1 hz e2 fun w1 H1 L bs w2 H2 m1 M2 S2 hD2 r => ?_
    obtain ⟨k1, k2, k3⟩ := lcG_new m1 M2 S2 hD2 r
    exact f _ _ _ k1 k2 k3
  · cases e
end
end Mini

set_option Elab.async false
set_option linter.all false
set_option maxRecDepth 100000
namespace Mini
open PySem PySem.Spec PyProof.Rows L2

section
variable {X : Cx} {G : Sit} {e a b c tg iter o : Expr} {es : List Expr} {m ma mb mo mi mv : EM} {mas : AM} {pos p apos cpos : Pos} {ms ms' : SM} {x : Str} {st0 : Stmt}

/-! ### a, b, .. = e1, e2, .. in general -/
def gNames : List Nat → TGs
  | [] => gNil
  | i :: is => gCons (gName i) (gNames is)
structure SNs (X : Cx) (ts : List Expr) (is : List Nat) : Prop where
  pns : PGs X ts (gNames is)
theorem sns_nil : SNs X [] [] := ⟨pgs_nil⟩
theorem sns_cons (i : Nat) {x : Str} {ts : List Expr} {is : List Nat} (hN : X.N.Nodup) (h2 : SNs X ts is) (hi : X.N[i]? = some x := by rfl) (hx : Loc X.env.scope x := by first | exact Or.inl rfl | exact Or.inr rfl) (hf : X.fn x = true ∨ X.env.scope.names.lookup x = some .local := by first | exact .inl rfl | exact .inr rfl | assumption)
    (hs : (assignEach (.Name x pos :: ts) X.env).map (·.2) = assign (.Name x pos) X.env :: (assignEach ts X.env).map (·.2) := by rfl) : SNs X (.Name x pos :: ts) (i :: is) := ⟨pgs_cons (pg_name hN hi hx hf) h2.pns hs⟩
theorem setAll_len : ∀ {is : List Nat} {xs : List Vl} {rho rho' : Rho}, setAll is xs rho = some rho' → xs.length = is.length
  | [], [], _, _, _ => rfl
  | [], _ :: _, _, _, h => by cases h
  | _ :: _, [], _, _, h => by cases h
  | _ :: is, _ :: xs, _, _, h => by rw [List.length_cons, List.length_cons, setAll_len (is := is) h]
theorem gNames_of : ∀ {is : List Nat} {xs : List Vl} {vs : List V} {w : Wd} {H : Hp} {σ : L2.St} {rho rho' : Rho} {Q : L2.St → Hp → Prop}, EnvOk G w H σ rho → RepVs G w H xs vs → setAll is xs rho = some rho' → (∀ σ', EnvOk G w H σ' rho' → Q σ' H) → gNames is vs σ H Q
  | [], [], _, _, _, _, _, _, _, E, r, h, q => by
    cases h
    cases r
    exact ⟨rfl, q _ E⟩
  | [], _ :: _, _, _, _, _, _, _, _, _, _, h, _ => by cases h
  | _ :: _, [], _, _, _, _, _, _, _, _, _, h, _ => by cases h
  | i :: is, x :: xs, _, _, _, _, _, _, _, E, .cons r1 r2, h, q => ⟨_, _, rfl, gNames_of (is := is) (E.set r1 i) r2 h q⟩
theorem ss_parG {ts : List Expr} {is : List Nat} {kt k2 : Nat} {pt pt2 : Pos} (hc : X.calm = true) (ha : SA X G es mas) (ht : SNs X ts is) (hl : is.length ≤ 100 := by decide)
    (hn : (assignEach ts X.env).length = is.length := by rfl) (hst : (assignEach ts X.env).findIdx? (·.1) = none := by rfl)
    (hs : swapsWithSole [.Tuple ts kt pt] (.Tuple es k2 pt2) pos.line X.env = pure false := by rfl) (hw : swappedStores [.Tuple ts kt pt] (.Tuple es k2 pt2) X.env = pure none := by rfl)
    (h1 : (assignEach [.Tuple ts kt pt] X.env).map (·.2) = [assign (.Tuple ts kt pt) X.env] := by rfl) : SS X G (.Assign [.Tuple ts kt pt] (.Tuple es k2 pt2) pos) (mPar is mas) := by
  refine ⟨(ps_asg (pe_tupF ha.pa) (pg_tup hc ht.pns hn hst) hs hw h1).imp fun D σ H h => ?_⟩
  obtain ⟨w, rho, st, f, rho', st', S, E, e, q⟩ := h
  obtain ⟨⟨xs, s1⟩, e1, e⟩ := bindS e
  obtain ⟨rho2, e2, e⟩ := mapS e
  cases e
  refine ⟨w, rho, st, xs, _, S, E, e1, fun w1 H1 vs m1 S1 r1 => ?_⟩
  have l1 := setAll_len e2
  have l2 := RepVs.length r1
  refine ⟨by rw [← l2, l1, lim_eq]; exact Nat.le_trans hl (by decide), fun p o hp ho => ?_⟩
  obtain ⟨m2, S2, _⟩ := Mono.fresh (o := .frz o (.tup vs)) S1 hp
  refine ⟨p, vs, rfl, .inl (.inr ⟨_, upd_same⟩), by rw [← l2, l1], ?_⟩
  exact gNames_of (m2.env (m1.env E)) (m2.repVs r1) e2 fun σ' E' => q w1 _ (m1.trans m2) S2 σ' E'
theorem ss_par3 (i j l : Nat) {x y z : Str} {px py pz pt : Pos} {kt k2 pt2} (hc : X.calm = true) (hN : X.N.Nodup) (ha : SA X G [a, b, c] mas) (hi : X.N[i]? = some x := by rfl) (hj : X.N[j]? = some y := by rfl) (hl : X.N[l]? = some z := by rfl) (hij : i ≠ j := by decide) (hil : i ≠ l := by decide) (hjl : j ≠ l := by decide)
    (hx : X.env.scope.names.lookup x = some .local := by rfl) (hy : X.env.scope.names.lookup y = some .local := by rfl) (hz : X.env.scope.names.lookup z = some .local := by rfl)
    (hw : swappedStores [.Tuple [.Name x px, .Name y py, .Name z pz] kt pt] (.Tuple [a, b, c] k2 pt2) X.env = pure (some [x, y, z]) := by rfl)
    (hs : swapsWithSole [.Tuple [.Name x px, .Name y py, .Name z pz] kt pt] (.Tuple [a, b, c] k2 pt2) pos.line X.env = pure false := by rfl) :
    SS X G (.Assign [.Tuple [.Name x px, .Name y py, .Name z pz] kt pt] (.Tuple [a, b, c] k2 pt2) pos) (mPar [i, j, l] mas) := by
  refine ⟨(ps_par3 hc hN hi hj hl hij hil hjl hx hy hz ha.pa hw hs).imp fun D σ H h => ?_⟩
  obtain ⟨w, rho, st, f, rho', st', S, E, e, q⟩ := h
  obtain ⟨⟨xs, s1⟩, e1, e⟩ := bindS e
  obtain ⟨rho2, e2, e⟩ := mapS e
  cases e
  refine ⟨w, rho, st, xs, _, S, E, e1, fun w1 H1 vs m1 S1 r1 => ?_⟩
  match xs, vs, r1, e2 with
  | [u1, u2, u3], _, .cons r1 (.cons r2 (.cons r3 .nil)), e2 =>
    cases e2
    exact ⟨_, _, _, rfl, q w1 H1 m1 S1 _ ((((m1.env E).set r1 i).set r2 j).set r3 l)⟩
  | [], _, _, e2 => cases e2
  | [_], _, _, e2 => cases e2
  | [_, _], _, _, e2 => cases e2
  | _ :: _ :: _ :: _ :: _, _, _, e2 => cases e2

/-! ### a changing thing is read as data from here on -/
def mFrz (m : EM) : EM := fun rho st => (m rho st).bind fun p => match p.1 with
  | .r n => match p.2[n]? with
    | some c => (frzC c).map fun d => (.d d, p.2.set n .dead)
    | none => none
  | .d d => some (.d d, p.2)
  | _ => none
theorem StOk.kill {w : Wd} {H : Hp} {st : Store} (S : StOk G w H st) (n : Nat) : Mono w ⟨w.nu, w.io.set n []⟩ H H ∧ StOk G ⟨w.nu, w.io.set n []⟩ H (st.set n .dead) ∧ Kept w.mu (⟨w.nu, w.io.set n []⟩ : Wd).mu H H := by
  have sub : ∀ a, a ∈ (⟨w.nu, w.io.set n []⟩ : Wd).mu → a ∈ w.mu := fun a h => by
    rcases List.mem_append.mp h with h | h
    · exact List.mem_append_left _ h
    · obtain ⟨p, hp, ha⟩ := List.mem_flatten.mp h
      rcases List.mem_or_eq_of_mem_set hp with hp | rfl
      · exact List.mem_append_right _ (List.mem_flatten.mpr ⟨p, hp, ha⟩)
      · cases ha
  have k : Kept w.mu (⟨w.nu, w.io.set n []⟩ : Wd).mu H H := ⟨fun _ _ h _ => h, fun a _ _ n z => n (sub a z)⟩
  have fl : ∀ (l : List (List Addr)) (n : Nat), (l.set n []).flatten.Sublist l.flatten := by
    intro l
    induction l with
    | nil => intro n; exact .slnil
    | cons p l ih =>
      intro n
      cases n with
      | zero => rw [List.set_cons_zero, List.flatten_cons, List.flatten_cons, List.nil_append]; exact List.sublist_append_right _ _
      | succ n => rw [List.set_cons_succ, List.flatten_cons, List.flatten_cons]; exact (List.Sublist.refl p).append (ih n)
  refine ⟨⟨k, rfl, fun _ _ => rfl, fun j p h => ?_⟩, ⟨by rw [List.length_set, List.length_set, S.len], ?_, S.res, fun j c p h1 h2 => ?_⟩, k⟩
  · show (w.io.set n [])[j]? = _ ∨ (w.io.set n [])[j]? = _
    by_cases hj : n = j
    · subst hj
      rw [List.getElem?_set_self (List.getElem?_eq_some_iff.mp h).1]
      exact .inr rfl
    · rw [List.getElem?_set_ne hj]
      exact .inl h
  · exact S.nd.sublist ((List.Sublist.refl w.nu).append (fl w.io n))
  · have h2' : (w.io.set n [])[j]? = some p := h2
    by_cases hj : n = j
    · subst hj
      have hl : n < w.io.length := by
        have := (List.getElem?_eq_some_iff.mp h2').1
        simpa using this
      rw [List.getElem?_set_self hl] at h2'
      cases h2'
      rw [List.getElem?_set_self (by rw [S.len]; exact hl)] at h1
      cases h1
      exact rfl
    · rw [List.getElem?_set_ne hj] at h1 h2'
      exact (S.cell j c p h1 h2').kept k fun _ _ => rfl
theorem frz_kill {w : Wd} {H : Hp} {st : Store} (S : StOk G w H st) {n : Nat} {c : Cell} {d : D} {v : V} (hc : st[n]? = some c) (hf : frzC c = some d) (r : RepV G w H (.r n) v) : Rep G (⟨w.nu, w.io.set n []⟩ : Wd).mu H d v := by
  obtain ⟨_, _, k⟩ := S.kill n
  obtain ⟨q, hq, hv⟩ := r
  have out : ∀ a ∈ q, a ∉ (⟨w.nu, w.io.set n []⟩ : Wd).mu := fun a ha z => by
    rcases List.mem_append.mp z with z | z
    · exact S.not_nu hq ha z
    · obtain ⟨p2, hp2, ha2⟩ := List.mem_flatten.mp z
      obtain ⟨j, hj, ej⟩ := List.mem_iff_getElem.mp hp2
      by_cases hnj : n = j
      · subst hnj
        have : p2 = [] := by rw [← ej]; simp
        subst this
        cases ha2
      · have h2 : w.io[j]? = some p2 := by
          rw [← List.getElem?_set_ne hnj (a := []), List.getElem?_eq_getElem hj]
          exact congrArg some ej
        exact hnj (S.apart hq h2 ha ha2)
  have ok := S.cell n c q hc hq
  cases c with
  | dead => cases hf
  | lst ds =>
    cases hf
    obtain ⟨a, vs, rfl, e1, r1⟩ := ok
    rw [hv a [] rfl]
    exact .lst e1 (out a (by simp)) (k.repL r1)
  | grid rs =>
    cases hf
    obtain ⟨a, bs, rfl, e1, l, q2⟩ := ok
    rw [hv a bs rfl]
    refine .lst e1 (out a (by simp)) ?_
    have all : ∀ (rs : List (List D)) (bs : List Addr), bs.length = rs.length → (∀ (i : Nat) (b : Addr) (ds : List D), bs[i]? = some b → rs[i]? = some ds → ∃ vs, H b = some (.lst vs) ∧ RepL G w.mu H ds vs) → (∀ x ∈ bs, x ∉ (⟨w.nu, w.io.set n []⟩ : Wd).mu) →
        RepL G (⟨w.nu, w.io.set n []⟩ : Wd).mu H (rs.map D.lst) (bs.map V.ref) := by
      intro rs
      induction rs with
      | nil =>
        intro bs hl _ _
        cases bs with
        | nil => exact .nil
        | cons b bs => simp at hl
      | cons r rs ih =>
        intro bs hl q no
        cases bs with
        | nil => simp at hl
        | cons b0 bs =>
          obtain ⟨vs, e1, r1⟩ := q 0 b0 r rfl rfl
          exact .cons (.lst e1 (no b0 (by simp)) (k.repL r1)) (ih bs (by simpa using hl) (fun i b ds h1 h2 => q (i + 1) b ds (by simpa using h1) (by simpa using h2)) fun x hx => no x (List.mem_cons_of_mem _ hx))
    exact all rs bs l q2 fun x hx => out x (List.mem_cons_of_mem _ hx)
  | dic ks ds =>
    cases hf
    obtain ⟨a, vs, rfl, e1, l, r1⟩ := ok
    rw [hv a [] rfl]
    exact .dic e1 (out a (by simp)) l (k.repL r1)
  | obj c ns ds =>
    cases hf
    obtain ⟨a, dx, C, vs, rfl, e1, h1, l, r1⟩ := ok
    rw [hv a [] rfl]
    exact .obj e1 (out a (by simp)) h1 l (k.repL r1)
theorem se_frz (h : SE X G e m) : SE X G e (mFrz m) := by
  refine ⟨h.pe.imp fun σ H Q h => ?_⟩
  obtain ⟨w, rho, st, c, st', S, E, e, f⟩ := h
  obtain ⟨⟨x, s1⟩, e1, e⟩ := bindS e
  refine ⟨w, rho, st, x, s1, S, E, e1, fun w1 H1 v m1 S1 r1 => ?_⟩
  cases x with
  | d x => cases e; exact (f.from m1).now S1 r1
  | r n =>
    simp only at e
    split at e
    · rename_i c0 hc
      obtain ⟨d, hd, e⟩ := mapS e
      cases e
      obtain ⟨m2, S2, _⟩ := S1.kill n
      exact f _ H1 v (m1.trans m2) S2 (frz_kill S1 hc hd r1)
    · cases e
  | rr n i => cases e
end
end Mini

set_option Elab.async false
set_option linter.all false
set_option maxRecDepth 100000
namespace Mini
open PySem PySem.Spec PyProof.Rows L2

/-- the name x is a def of the top that does what cf says -/
def Has (P : Program) (w : World) (K : PySem.W.Frag) (mg : Str → Option Value) (base : Heap) (G : Sit) (k : Nat) (x : Str) (n : Nat) (cf : FM) : Prop :=
  ∃ f fd ps, FnOk P w K mg base CX0 k f fd ps (spOf G n cf) ∧ mg x = some (.ref f) ∧ PySem.W.keepIn K (.ref f) = true ∧ Binds K fd ps []
/-- the name x is a class whose __init__ does what cf says -/
def HasC (P : Program) (w : World) (K : PySem.W.Frag) (mg : Str → Option Value) (base : Heap) (G : Sit) (k : Nat) (x : Str) (c n : Nat) (cf : FM) : Prop :=
  ∃ C f fd ps, FnOk P w K mg base CX0 k f fd ps (spOf G n cf) ∧ mg x = some (.ref C) ∧ Mk K C f ∧ G.cls c = some C ∧ Binds K fd ps []
/-- the def as the top has written it -/
def Fn (K : PySem.W.Frag) (mg : Str → Option Value) (x qual : Str) (st : Stmt) (ps : List Str) : Prop := ∃ f fd, Fun K x qual st f fd ∧ mg x = some (.ref f) ∧ Binds K fd ps []
def FnC (K : PySem.W.Frag) (mg : Str → Option Value) (G : Sit) (cn : Str) (c : Nat) (x qual : Str) (st : Stmt) (ps : List Str) : Prop := ∃ C f fd, Fun K x qual st f fd ∧ mg cn = some (.ref C) ∧ Mk K C f ∧ G.cls c = some C ∧ Binds K fd ps []
section
variable {X : Cx} {G : Sit} {e : Expr} {es : List Expr} {mas : AM} {pos p : Pos} {x : Str} {k n c : Nat} {cf : FM}
theorem Has.mono {P : Program} {w : World} {K : PySem.W.Frag} {mg : Str → Option Value} {base : Heap} {j : Nat} (h : Has P w K mg base G j x n cf) (hl : j ≤ k) : Has P w K mg base G k x n cf := by
  obtain ⟨f, fd, ps, F, r⟩ := h
  exact ⟨f, fd, ps, F.mono hl, r⟩
theorem se_callH (h : Has X.prog X.w X.K X.mg X.base G k x n cf) (hr : Room k X.A) (ha : SA X G (e :: es) mas) (hg : Gl X x := by rfl) (hdb : (x == ("__debug__" : Str)) = false := by decide) (he : starEach (e :: es) X.env = (false, eval e X.env) :: starEach es X.env := by rfl) (hpl : (backTo pos (starEach es X.env)).any (·.1) = false := by rfl) :
    SE X G (.Call (.Name x p) (e :: es) [] pos) (mCall n cf mas) := by
  obtain ⟨f, fd, ps, F, hm, hk, hb⟩ := h
  exact se_call F hr hm hk hb ha hg hdb he hpl
theorem se_callHN (h : Has X.prog X.w X.K X.mg X.base G k x n cf) (hr : Room k X.A) (ha : SA X G (e :: es) mas) (hg : Gl X x := by rfl) (hdb : (x == ("__debug__" : Str)) = false := by decide) (he : starEach (e :: es) X.env = (false, eval e X.env) :: starEach es X.env := by rfl) (hpl : (backTo pos (starEach es X.env)).any (·.1) = false := by rfl) :
    SE X G (.Call (.Name x p) (e :: es) [] pos) (mCallN n cf mas) := by
  obtain ⟨f, fd, ps, F, hm, hk, hb⟩ := h
  exact se_callN F hr hm hk hb ha hg hdb he hpl
theorem se_makeH (h : HasC X.prog X.w X.K X.mg X.base G k x c n cf) (hr : Room (k + 1) X.A) (ha : SA X G (e :: es) mas) (hg : Gl X x := by rfl) (hdb : (x == ("__debug__" : Str)) = false := by decide) (he : starEach (e :: es) X.env = (false, eval e X.env) :: starEach es X.env := by rfl) (hpl : (backTo pos (starEach es X.env)).any (·.1) = false := by rfl) :
    SE X G (.Call (.Name x p) (e :: es) [] pos) (mMake c n cf mas) := by
  obtain ⟨C, f, fd, ps, F, hm, M, hC, hb⟩ := h
  exact se_make M F hC hr hm hb ha hg hdb he hpl
theorem se_gintH {i : Int} (h : ∃ t, X.mg x = some (.int i t)) (hg : Gl X x := by rfl) (hd : (x == ("__debug__" : Str)) = false := by decide) : SE X G (.Name x pos) (mC (.int i)) := by
  obtain ⟨t, hm⟩ := h
  exact se_gint hg hm hd
theorem fn_none {P : Program} {w0 : World} {K : PySem.W.Frag} {mg : Str → Option Value} {base : Heap} {x qual : Str} {st : Stmt} {f : Addr} {fd : FuncData} {N ps : List Str} {k m : Nat} (F : Fun K x qual st f fd) (S : FnScope N ps (defScope st)) :
    FnOk P w0 K mg base CX0 k f fd ps (spOf G m fun _ _ => none) :=
  have no : ∀ vs H Q E, spOf G m (fun _ _ => none) vs H Q E → False := fun vs H Q E h => by
    obtain ⟨w, st, as, c, st', S, r, hl, e, q⟩ := h
    cases e
  ⟨fun vs H Q E h => (no vs H Q E h).elim, fun A outer s H args us vs Q E hr he hb hv h => (no vs H Q E h).elim⟩
end
/-! ### the end -/
def sitOf (K : PySem.W.Frag) (l : List Addr) : Sit := ⟨K, fun i => l[i]?⟩
def Alls (p : Addr → Prop) : List Addr → Prop
  | [] => True
  | a :: l => p a ∧ Alls p l
theorem Alls.mem {p : Addr → Prop} : ∀ {l : List Addr} {a : Addr}, Alls p l → a ∈ l → p a
  | _ :: _, _, h, m => by
    rcases List.mem_cons.mp m with rfl | m
    · exact h.1
    · exact Alls.mem h.2 m
theorem cls_all {K : PySem.W.Frag} {p : Addr → Prop} {l : List Addr} (h : Alls p l) : ∀ c C, (sitOf K l).cls c = some C → p C := fun _ _ e => h.mem (List.mem_of_getElem? e)
/-- the law's promise -/
def spL (K : PySem.W.Frag) (cf : FM) : Sp := fun vs H Q _ => ∃ (a : Addr) (ns : List Int), vs = [.ref a] ∧ SqL K H a (ns.map V.int) ∧ (∃ st', cf [] [.d (.scr ns)] = some (.d (.bl true), st')) ∧ Q = fun v _ => v = .bl true
theorem spL_of (K : PySem.W.Frag) (l : List Addr) (cf : FM) : ∀ vs H Q E, spL K cf vs H Q E → spOf (sitOf K l) 1 cf vs H Q E := by
  rintro vs H Q E ⟨a, ns, rfl, hS, ⟨st', e⟩, rfl⟩
  refine ⟨⟨[], []⟩, [], [.d (.scr ns)], .d (.bl true), st', ⟨rfl, List.nodup_nil, fun a h => (by cases h), fun n c p h => (by simp at h)⟩, .cons (.scr ?_) .nil, rfl, e, fun w' H' v m S r => ?_⟩
  · rcases hS with h | h
    · exact .inl ⟨h, by simp [Wd.mu]⟩
    · exact .inr h
  · cases r
    rfl
end Mini

set_option Elab.async false
set_option linter.all false
set_option maxRecDepth 100000
namespace Mini
open PySem PySem.Spec PyProof.Rows L2
/-! how the combinators work, as rules for simp -/
@[simp] theorem mVar_ap (i : Nat) (rho : Rho) (st : Store) : mVar i rho st = match rho[i]? with
  | some (some x) => some (x, st)
  | _ => none := (rfl)
@[simp] theorem mC_ap (d : D) (rho : Rho) (st : Store) : mC d rho st = some (.d d, st) := (rfl)
@[simp] theorem mOp_ap (g : Store → Vl → Vl → Option Vl) (ma mb : EM) (rho : Rho) (st : Store) : mOp g ma mb rho st = (ma rho st).bind fun p => (mb rho p.2).bind fun q => (g q.2 p.1 q.1).map fun c => (c, q.2) := (rfl)
@[simp] theorem mUn_ap (g : Store → Vl → Option Vl) (ma : EM) (rho : Rho) (st : Store) : mUn g ma rho st = (ma rho st).bind fun p => (g p.2 p.1).map fun c => (c, p.2) := (rfl)
@[simp] theorem mB_ap (m : EM) (rho : Rho) (st : Store) : mB m rho st = (m rho st).bind fun p => match p.1 with
  | .d (.bl c) => some (c, p.2)
  | _ => none := (rfl)
@[simp] theorem mT_ap (m : EM) (rho : Rho) (st : Store) : mT m rho st = (m rho st).bind fun p => (truV p.2 p.1).map fun c => (c, p.2) := (rfl)
@[simp] theorem mAndT_ap (ta tb : TM) (rho : Rho) (st : Store) : mAndT ta tb rho st = (ta rho st).bind fun p => if p.1 then tb rho p.2 else some (false, p.2) := (rfl)
@[simp] theorem mOrT_ap (ta tb : TM) (rho : Rho) (st : Store) : mOrT ta tb rho st = (ta rho st).bind fun p => if p.1 then some (true, p.2) else tb rho p.2 := (rfl)
@[simp] theorem mNotT_ap (ta : TM) (rho : Rho) (st : Store) : mNotT ta rho st = (ta rho st).bind fun p => some (!p.1, p.2) := (rfl)
@[simp] theorem mAndV_ap (ma mb : EM) (rho : Rho) (st : Store) : mAndV ma mb rho st = (ma rho st).bind fun p => match p.1 with
  | .d (.bl true) => mb rho p.2
  | .d (.bl false) => some (.d (.bl false), p.2)
  | _ => none := (rfl)
@[simp] theorem mOrV_ap (ma mb : EM) (rho : Rho) (st : Store) : mOrV ma mb rho st = (ma rho st).bind fun p => match p.1 with
  | .d (.bl true) => some (.d (.bl true), p.2)
  | .d (.bl false) => mb rho p.2
  | _ => none := (rfl)
@[simp] theorem notV_bl (st : Store) (b : Bool) : notV st (.d (.bl b)) = some (.d (.bl (!b))) := (rfl)
@[simp] theorem mIfE_ap (t : TM) (ma mb : EM) (rho : Rho) (st : Store) : mIfE t ma mb rho st = (t rho st).bind fun p => if p.1 then ma rho p.2 else mb rho p.2 := (rfl)
@[simp] theorem mChain_ap (g g' : Store → Vl → Vl → Option Vl) (ma mb mc : EM) (rho : Rho) (st : Store) : mChain g g' ma mb mc rho st = (ma rho st).bind fun p => (mb rho p.2).bind fun q => (g q.2 p.1 q.1).bind fun c => match c with
  | .d (.bl true) => (mc rho q.2).bind fun r => (g' r.2 q.1 r.1).map fun c => (c, r.2)
  | .d (.bl false) => some (.d (.bl false), q.2)
  | _ => none := (rfl)
@[simp] theorem mNil_ap (rho : Rho) (st : Store) : mNil rho st = some ([], st) := (rfl)
@[simp] theorem mCons_ap (ma : EM) (mr : AM) (rho : Rho) (st : Store) : mCons ma mr rho st = (ma rho st).bind fun p => (mr rho p.2).map fun q => (p.1 :: q.1, q.2) := (rfl)
@[simp] theorem unD_nil : unD [] = some [] := (rfl)
@[simp] theorem unD_cons (x : D) (xs : List Vl) : unD (.d x :: xs) = (unD xs).map (x :: ·) := (rfl)
@[simp] theorem mTup_ap (ma : AM) (rho : Rho) (st : Store) : mTup ma rho st = (ma rho st).bind fun p => (unD p.1).bind fun ds => if ds.length ≤ lim then some (.d (.tup ds), p.2) else none := (rfl)
@[simp] theorem mLst_ap (ma : AM) (rho : Rho) (st : Store) : mLst ma rho st = (ma rho st).bind fun p => (unD p.1).bind fun ds => if ds.length ≤ lim then some (.d (.lst ds), p.2) else none := (rfl)
@[simp] theorem mLstN_ap (ma : AM) (rho : Rho) (st : Store) : mLstN ma rho st = (ma rho st).bind fun p => (unD p.1).bind fun ds => if ds.length ≤ lim then some (.r p.2.length, p.2 ++ [.lst ds]) else none := (rfl)
@[simp] theorem mNext_ap (rho : Rho) (st : Store) : mNext rho st = some (.nx, rho, st) := (rfl)
@[simp] theorem mBreak_ap (rho : Rho) (st : Store) : mBreak rho st = some (.bk, rho, st) := (rfl)
@[simp] theorem mCont_ap (rho : Rho) (st : Store) : mCont rho st = some (.ct, rho, st) := (rfl)
@[simp] theorem mSeq_ap (m1 m2 : SM) (rho : Rho) (st : Store) : mSeq m1 m2 rho st = (m1 rho st).bind fun p => match p.1 with
  | .nx => m2 p.2.1 p.2.2
  | f => some (f, p.2.1, p.2.2) := (rfl)
@[simp] theorem mRet_ap (m : EM) (rho : Rho) (st : Store) : mRet m rho st = (m rho st).map fun p => (.rt p.1, rho, p.2) := (rfl)
@[simp] theorem mRetN_ap (rho : Rho) (st : Store) : mRetN rho st = some (.rt (.d .non), rho, st) := (rfl)
@[simp] theorem mDrop_ap (m : EM) (rho : Rho) (st : Store) : mDrop m rho st = (m rho st).map fun p => (.nx, rho, p.2) := (rfl)
@[simp] theorem mIf_ap (t : TM) (m1 m2 : SM) (rho : Rho) (st : Store) : mIf t m1 m2 rho st = (t rho st).bind fun p => if p.1 then m1 rho p.2 else m2 rho p.2 := (rfl)
@[simp] theorem mSet_ap (i : Nat) (m : EM) (rho : Rho) (st : Store) : mSet i m rho st = (m rho st).map fun p => (.nx, rho.set i (some p.1), p.2) := (rfl)
@[simp] theorem mUnp_ap (g : GM) (m : EM) (rho : Rho) (st : Store) : mUnp g m rho st = (m rho st).bind fun p => match p.1 with
  | .d x => (g (.one x) rho).map fun rho' => (.nx, rho', p.2)
  | _ => none := (rfl)
@[simp] theorem setAll_nil (rho : Rho) : setAll [] [] rho = some rho := (rfl)
@[simp] theorem setAll_cons (i : Nat) (is : List Nat) (x : Vl) (xs : List Vl) (rho : Rho) : setAll (i :: is) (x :: xs) rho = setAll is xs (rho.set i (some x)) := (rfl)
@[simp] theorem mPar_ap (is : List Nat) (ma : AM) (rho : Rho) (st : Store) : mPar is ma rho st = (ma rho st).bind fun p => (setAll is p.1 rho).map fun rho' => (.nx, rho', p.2) := (rfl)
@[simp] theorem gNm_one (i : Nat) (d : D) (rho : Rho) : gNm i (.one d) rho = some (rho.set i (some (.d d))) := (rfl)
@[simp] theorem gTp_tup (gs : List GM) (ds : List D) (rho : Rho) : gTp gs (.one (.tup ds)) rho = gAll gs ds rho := (rfl)
@[simp] theorem gTp_pair (gs : List GM) (x y : D) (rho : Rho) : gTp gs (.pair x y) rho = gAll gs [x, y] rho := (rfl)
@[simp] theorem gAll_nil (rho : Rho) : gAll [] [] rho = some rho := (rfl)
@[simp] theorem gAll_cons (g : GM) (gs : List GM) (d : D) (ds : List D) (rho : Rho) : gAll (g :: gs) (d :: ds) rho = (g (.one d) rho).bind (gAll gs ds) := (rfl)
@[simp] theorem mFor_ap (mi : IM) (g : GM) (body : SM) (rho : Rho) (st : Store) : mFor mi g body rho st = (mi rho st).bind fun p => forLoop g body p.1 rho p.2 := (rfl)
@[simp] theorem iSeq_ap (m : EM) (rho : Rho) (st : Store) : iSeq m rho st = (m rho st).bind fun p => (itsOf p.1).map fun its => (its, p.2) := (rfl)
@[simp] theorem itsOf_tup (ds : List D) : itsOf (.d (.tup ds)) = some (ds.map Itm.one) := (rfl)
@[simp] theorem itsOf_lst (ds : List D) : itsOf (.d (.lst ds)) = some (ds.map Itm.one) := (rfl)
@[simp] theorem iAs_ap (g : List Vl → Option (List Itm)) (m : AM) (rho : Rho) (st : Store) : iAs g m rho st = (m rho st).bind fun p => (g p.1).map fun its => (its, p.2) := (rfl)
@[simp] theorem zipOf_lst (xs ys : List D) : zipOf [.d (.lst xs), .d (.lst ys)] = some ((xs.zip ys).map fun q => Itm.pair q.1 q.2) := (rfl)
@[simp] theorem zipOf_tup (xs ys : List D) : zipOf [.d (.tup xs), .d (.tup ys)] = some ((xs.zip ys).map fun q => Itm.pair q.1 q.2) := (rfl)
@[simp] theorem mYes_ap (rho : Rho) (st : Store) : mYes rho st = some (true, st) := (rfl)
@[simp] theorem unsetR_nil (rho : Rho) : unsetR rho [] = rho := (rfl)
@[simp] theorem unsetR_cons (rho : Rho) (v : Nat) (vs : List Nat) : unsetR rho (v :: vs) = (unsetR rho vs).set v none := (rfl)
@[simp] theorem exitV_d (b : Nat) (x : D) (st : Store) : exitV b (.d x, st) = some (.d x, st.take b) := (rfl)
/-- a call and its end -/
def callV (cf : FM) (st : Store) (as : List Vl) : Option (Vl × Store) := (cf st as).bind (exitV st.length)
def callN (cf : FM) (st : Store) (as : List Vl) : Option (Vl × Store) := (cf st as).bind (exitN st.length)
@[simp] theorem mCall_ap (n : Nat) (cf : FM) (ma : AM) (rho : Rho) (st : Store) : mCall n cf ma rho st = (ma rho st).bind fun p => if p.1.length = n then callV cf p.2 p.1 else none := (rfl)
@[simp] theorem mCallN_ap (n : Nat) (cf : FM) (ma : AM) (rho : Rho) (st : Store) : mCallN n cf ma rho st = (ma rho st).bind fun p => if p.1.length = n then callN cf p.2 p.1 else none := (rfl)
theorem callV_of {cf : FM} {st st' : Store} {as : List Vl} {x : D} (h : cf st as = some (.d x, st')) (l : st'.length = st.length) : callV cf st as = some (.d x, st') := by
  unfold callV
  rw [h, Option.bind_some]
  show some (Vl.d x, st'.take st.length) = _
  rw [← l, List.take_length]
theorem callV_same {cf : FM} {st : Store} {as : List Vl} {x : D} (h : cf st as = some (.d x, st)) : callV cf st as = some (.d x, st) := callV_of h rfl
@[simp] theorem mMake_ap (c n : Nat) (cf : FM) (ma : AM) (rho : Rho) (st : Store) : mMake c n cf ma rho st = (ma rho st).bind fun p => if p.1.length + 1 = n then (cf (p.2 ++ [.obj c [] []]) (.r p.2.length :: p.1)).bind fun q => match q.1 with
  | .d .non => exitV p.2.length (.r p.2.length, q.2)
  | _ => none else none := (rfl)
@[simp] theorem mBi_ap (g : FM) (ma : AM) (rho : Rho) (st : Store) : mBi g ma rho st = (ma rho st).bind fun p => g p.2 p.1 := (rfl)
@[simp] theorem one_ap (g : Store → Vl → Option Vl) (st : Store) (a : Vl) : one g st [a] = (g st a).map fun c => (c, st) := (rfl)
@[simp] theorem two_ap (g : Store → Vl → Vl → Option Vl) (st : Store) (a b : Vl) : two g st [a, b] = (g st a b).map fun c => (c, st) := (rfl)
@[simp] theorem absV1_int (st : Store) (i : Int) : absV1 st (.d (.int i)) = some (.d (.int (if i < 0 then -i else i))) := (rfl)
@[simp] theorem intV1_int (st : Store) (i : Int) : intV1 st (.d (.int i)) = some (.d (.int i)) := (rfl)
@[simp] theorem mIsi_ap (T : String) (m : EM) (rho : Rho) (st : Store) : mIsi T m rho st = (m rho st).bind fun p => (tyOf p.2 p.1).map fun t => (.d (.bl (isTy T t)), p.2) := (rfl)
@[simp] theorem tyOf_non (st : Store) : tyOf st (.d .non) = some "NoneType" := (rfl)
@[simp] theorem tyOf_bl (st : Store) (b : Bool) : tyOf st (.d (.bl b)) = some "bool" := (rfl)
@[simp] theorem tyOf_int (st : Store) (i : Int) : tyOf st (.d (.int i)) = some "int" := (rfl)
@[simp] theorem tyOf_str (st : Store) (x : Str) : tyOf st (.d (.str x)) = some "str" := (rfl)
@[simp] theorem tyOf_tup (st : Store) (ds : List D) : tyOf st (.d (.tup ds)) = some "tuple" := (rfl)
@[simp] theorem tyOf_lst (st : Store) (ds : List D) : tyOf st (.d (.lst ds)) = some "list" := (rfl)
@[simp] theorem tyOf_dic (st : Store) (ks : List Key) (ds : List D) : tyOf st (.d (.dic ks ds)) = some "dict" := (rfl)
@[simp] theorem isTy_def (T t : String) : isTy T t = (t == T || (t == "bool" && T == "int")) := (rfl)
@[simp] theorem lstOf_lst (st : Store) (ds : List D) : lstOf st (.d (.lst ds)) = some ds := (rfl)
@[simp] theorem lstOf_r (st : Store) (n : Nat) : lstOf st (.r n) = match st[n]? with
  | some (.lst ds) => some ds
  | _ => none := (rfl)
@[simp] theorem seqOf_tup (st : Store) (ds : List D) : seqOf st (.d (.tup ds)) = some ds := (rfl)
@[simp] theorem seqOf_lst (st : Store) (ds : List D) : seqOf st (.d (.lst ds)) = some ds := (rfl)
@[simp] theorem seqOf_r (st : Store) (n : Nat) : seqOf st (.r n) = lstOf st (.r n) := (rfl)
@[simp] theorem addV_int (st : Store) (i j : Int) : addV st (.d (.int i)) (.d (.int j)) = some (.d (.int (i + j))) := (rfl)
@[simp] theorem addV_tup (st : Store) (xs ys : List D) : addV st (.d (.tup xs)) (.d (.tup ys)) = if xs.length + ys.length ≤ lim then some (.d (.tup (xs ++ ys))) else none := (rfl)
@[simp] theorem subV_int (st : Store) (i j : Int) : subV st (.d (.int i)) (.d (.int j)) = some (.d (.int (i - j))) := (rfl)
@[simp] theorem mulV_int (st : Store) (i j : Int) : mulV st (.d (.int i)) (.d (.int j)) = if small i || small j then some (.d (.int (i * j))) else none := (rfl)
@[simp] theorem fdivV_int (st : Store) (i j : Int) : fdivV st (.d (.int i)) (.d (.int j)) = if j ≠ 0 ∧ j.natAbs < 1073741824 then some (.d (.int (i.fdiv j))) else none := (rfl)
@[simp] theorem modV_int (st : Store) (i j : Int) : modV st (.d (.int i)) (.d (.int j)) = if j ≠ 0 then some (.d (.int (i.fmod j))) else none := (rfl)
@[simp] theorem powV_int (st : Store) (i j : Int) : powV st (.d (.int i)) (.d (.int j)) = if 0 ≤ j ∧ j ≤ 1000000 ∧ i.natAbs < 2 ^ 64 then some (.d (.int (i ^ j.toNat))) else none := (rfl)
@[simp] theorem negV_int (st : Store) (i : Int) : negV st (.d (.int i)) = some (.d (.int (-i))) := (rfl)
@[simp] theorem ltV_int (st : Store) (i j : Int) : ltV st (.d (.int i)) (.d (.int j)) = some (.d (.bl (decide (i < j)))) := (rfl)
@[simp] theorem leV_int (st : Store) (i j : Int) : leV st (.d (.int i)) (.d (.int j)) = some (.d (.bl (decide (i ≤ j)))) := (rfl)
@[simp] theorem gtV_int (st : Store) (i j : Int) : gtV st (.d (.int i)) (.d (.int j)) = some (.d (.bl (decide (i > j)))) := (rfl)
@[simp] theorem geV_int (st : Store) (i j : Int) : geV st (.d (.int i)) (.d (.int j)) = some (.d (.bl (decide (i ≥ j)))) := (rfl)
@[simp] theorem maxV2_int (st : Store) (i j : Int) : maxV2 st (.d (.int i)) (.d (.int j)) = some (.d (.int (max i j))) := by
  show some (Vl.d (.int (if j > i then j else i))) = _
  congr 3
  split <;> omega
@[simp] theorem minV2_int (st : Store) (i j : Int) : minV2 st (.d (.int i)) (.d (.int j)) = some (.d (.int (min i j))) := by
  show some (Vl.d (.int (if j < i then j else i))) = _
  congr 3
  split <;> omega
@[simp] theorem isN_non (neg : Bool) (st : Store) : isN neg st (.d .non) = some (.d (.bl (!neg))) := (rfl)
@[simp] theorem isN_bl (neg : Bool) (st : Store) (b : Bool) : isN neg st (.d (.bl b)) = some (.d (.bl neg)) := (rfl)
@[simp] theorem isN_int (neg : Bool) (st : Store) (i : Int) : isN neg st (.d (.int i)) = some (.d (.bl neg)) := (rfl)
@[simp] theorem isN_str (neg : Bool) (st : Store) (i : Str) : isN neg st (.d (.str i)) = some (.d (.bl neg)) := (rfl)
@[simp] theorem isN_tup (neg : Bool) (st : Store) (i : List D) : isN neg st (.d (.tup i)) = some (.d (.bl neg)) := (rfl)
@[simp] theorem isN_lst (neg : Bool) (st : Store) (i : List D) : isN neg st (.d (.lst i)) = some (.d (.bl neg)) := (rfl)
@[simp] theorem truV_bl (st : Store) (b : Bool) : truV st (.d (.bl b)) = some b := (rfl)
@[simp] theorem truV_int (st : Store) (i : Int) : truV st (.d (.int i)) = some (i != 0) := (rfl)
@[simp] theorem truV_non (st : Store) : truV st (.d .non) = some false := (rfl)
@[simp] theorem tupV1_tup (st : Store) (ds : List D) : tupV1 st (.d (.tup ds)) = some (.d (.tup ds)) := (rfl)
@[simp] theorem tupV1_lst (st : Store) (ds : List D) : tupV1 st (.d (.lst ds)) = some (.d (.tup ds)) := (rfl)
@[simp] theorem tupV1_r (st : Store) (n : Nat) : tupV1 st (.r n) = (lstOf st (.r n)).map fun ds => .d (.tup ds) := (rfl)
@[simp] theorem lstV1_ap (st : Store) (x : Vl) : lstV1 st x = (seqOf st x).map fun ds => .d (.lst ds) := (rfl)
@[simp] theorem lstN1_ap (st : Store) (x : Vl) : lstN1 st [x] = (seqOf st x).map fun ds => (.r st.length, st ++ [.lst ds]) := (rfl)
@[simp] theorem intsOf_map' (ns : List Int) : intsOf (ns.map D.int) = some ns := by
  induction ns with
  | nil => rfl
  | cons n ns ih => show (intsOf (ns.map D.int)).map (n :: ·) = _; rw [ih]; rfl
theorem intsOf_of {α : Type} (f : α → Int) (xs : List α) : intsOf (xs.map fun a => D.int (f a)) = some (xs.map f) := by
  rw [show (xs.map fun a => D.int (f a)) = (xs.map f).map D.int by rw [List.map_map]; rfl, intsOf_map']
theorem blsOf_of {α : Type} (f : α → Bool) (xs : List α) : blsOf (xs.map fun a => D.bl (f a)) = some (xs.map f) := by
  rw [show (xs.map fun a => D.bl (f a)) = (xs.map f).map D.bl by rw [List.map_map]; rfl, blsOf_map]
@[simp] theorem sumV1_lst (st : Store) (ds : List D) : sumV1 st (.d (.lst ds)) = (intsOf ds).map fun ns => .d (.int ns.sum) := (rfl)
@[simp] theorem allV1_lst (st : Store) (ds : List D) : allV1 st (.d (.lst ds)) = (blsOf ds).map fun bs => .d (.bl (bs.all id)) := (rfl)
@[simp] theorem anyV1_lst (st : Store) (ds : List D) : anyV1 st (.d (.lst ds)) = (blsOf ds).map fun bs => .d (.bl (bs.any id)) := (rfl)
theorem minV1_lst (st : Store) (ds : List D) {n : Int} {ns : List Int} (h : intsOf ds = some (n :: ns)) : minV1 st (.d (.lst ds)) = some (.d (.int (minL n ns))) := by
  unfold minV1
  rw [lstOf_lst, Option.bind_some, h]
theorem maxV1_lst (st : Store) (ds : List D) {n : Int} {ns : List Int} (h : intsOf ds = some (n :: ns)) : maxV1 st (.d (.lst ds)) = some (.d (.int (maxL n ns))) := by
  unfold maxV1
  rw [lstOf_lst, Option.bind_some, h]
@[simp] theorem sortV1_lst (st : Store) (ds : List D) : sortV1 st (.d (.lst ds)) = (intsOf ds).map fun ns => .d (.lst ((sortI ns).map D.int)) := (rfl)
@[simp] theorem fldV_obj (f : Str) (st : Store) (c : Nat) (ns : List Str) (ds : List D) : fldV f st (.d (.obj c ns ds)) = (fldOf ns ds f).map Vl.d := (rfl)
/-! .. where a value stands -/
@[simp] theorem ixV_tup (st : Store) (ds : List D) (i : Int) : ixV st (.d (.tup ds)) (.d (.int i)) = (atI ds i).map Vl.d := (rfl)
@[simp] theorem ixV_lst (st : Store) (ds : List D) (i : Int) : ixV st (.d (.lst ds)) (.d (.int i)) = (atI ds i).map Vl.d := (rfl)
@[simp] theorem ixV_r (st : Store) (n : Nat) (k : Vl) : ixV st (.r n) k = match st[n]? with
    | some (.dic ks ds) => (keyOf k).bind fun k => (lookD ks ds k).map Vl.d
    | some (.grid rs) => match k with
      | .d (.int i) => (ixN rs.length i).map fun j => .rr n j
      | _ => none
    | some (.lst ds) => match k with
      | .d (.int i) => (atI ds i).map Vl.d
      | _ => none
    | _ => none := by cases k <;> rfl
@[simp] theorem ixV_rr (st : Store) (n r : Nat) (i : Int) : ixV st (.rr n r) (.d (.int i)) = (lstOf st (.rr n r)).bind fun ds => (atI ds i).map Vl.d := (rfl)
theorem ixN_nat {n j : Nat} (h : j < n) : ixN n (j : Nat) = some j := by
  unfold ixN
  simp
  omega
theorem atI_nat' {α : Type} {xs : List α} {j : Nat} (h : j < xs.length) : atI xs (j : Nat) = some xs[j] := by
  unfold atI
  rw [ixN_nat h]
  exact List.getElem?_eq_getElem h
theorem lim_ge {n : Nat} (h : n ≤ 1000000) : n ≤ lim := Nat.le_trans h (by decide)
@[simp] theorem lim_1 : 1 ≤ lim := lim_ge (by decide)
@[simp] theorem lim_2 : 2 ≤ lim := lim_ge (by decide)
@[simp] theorem lim_3 : 3 ≤ lim := lim_ge (by decide)
@[simp] theorem lim_4 : 4 ≤ lim := lim_ge (by decide)
@[simp] theorem lim_5 : 5 ≤ lim := lim_ge (by decide)
@[simp] theorem lim_6 : 6 ≤ lim := lim_ge (by decide)
@[simp] theorem lim_7 : 7 ≤ lim := lim_ge (by decide)
@[simp] theorem lim_8 : 8 ≤ lim := lim_ge (by decide)
@[simp] theorem keyOf_int (i : Int) : Mini.keyOf (.d (.int i)) = some (.inl i) := (rfl)
@[simp] theorem keyOf_str (i : Str) : Mini.keyOf (.d (.str i)) = some (.inr i) := (rfl)
theorem lim_gt {n : Nat} (h : n < 1000000) : n < lim := Nat.lt_of_lt_of_le h (by decide)
theorem big62_nat {n : Nat} (h : n ≤ 1000000) : big62 (n : Nat) = true := by
  unfold big62
  exact decide_eq_true (by rw [Int.natAbs_natCast]; omega)
theorem rngOf1_nat {n : Nat} (h : n ≤ 1000000) : rngOf1 [.d (.int (n : Nat))] = some ((List.range n).map fun (k : Nat) => Itm.one (.int (k : Nat))) := by
  show (if big62 (n : Nat) then some (rng 0 ((n : Nat) : Int).toNat) else none) = _
  rw [if_pos (big62_nat h)]
  unfold rng
  simp

@[simp] theorem mSetIx_ap (mo mi mv : EM) (rho : Rho) (st : Store) : mSetIx mo mi mv rho st = (mv rho st).bind fun p => (mo rho p.2).bind fun q => (mi rho q.2).bind fun r => match p.1 with
  | .d y => (setIx r.2 q.1 r.1 y).map fun s => (.nx, rho, s)
  | _ => none := (rfl)
@[simp] theorem setIx_r (st : Store) (n : Nat) (i : Vl) (y : D) : setIx st (.r n) i y = match st[n]? with
    | some (.lst ds) => match i with
      | .d (.int k) => (ixN ds.length k).map fun j => st.set n (.lst (ds.set j y))
      | _ => none
    | some (.dic ks ds) => (keyOf i).bind fun k => if ks.length < lim then some (st.set n (.dic (putD ks ds k y).1 (putD ks ds k y).2)) else none
    | _ => none := (rfl)
@[simp] theorem setIx_rr (st : Store) (n r : Nat) (i : Vl) (y : D) : setIx st (.rr n r) i y = match st[n]? with
    | some (.grid rs) => match i with
      | .d (.int k) => (rs[r]?).bind fun row => (ixN row.length k).map fun j => st.set n (.grid (rs.set r (row.set j y)))
      | _ => none
    | _ => none := (rfl)
@[simp] theorem mMt_ap (g : Store → Vl → List Vl → Option (Vl × Store)) (mo : EM) (ma : AM) (rho : Rho) (st : Store) : mMt g mo ma rho st = (mo rho st).bind fun p => if (lstOf p.2 p.1).isSome then (ma rho p.2).bind fun q => g q.2 p.1 q.1 else none := (rfl)
@[simp] theorem appendT_ap (st : Store) (n : Nat) (y : D) : appendT st (.r n) [.d y] = match st[n]? with
    | some (.lst ds) => if ds.length < lim then some (.d .non, st.set n (.lst (ds ++ [y]))) else none
    | _ => none := (rfl)
@[simp] theorem popT_ap (st : Store) (n : Nat) : popT st (.r n) [] = match st[n]? with
    | some (.lst ds) => (ds[ds.length - 1]?).map fun y => (.d y, st.set n (.lst ds.dropLast))
    | _ => none := (rfl)
@[simp] theorem popIT_ap (st : Store) (n : Nat) (i : Int) : popIT st (.r n) [.d (.int i)] = match st[n]? with
    | some (.lst ds) => if big62 i then (ixN ds.length i).bind fun k => (ds[k]?).map fun y => (.d y, st.set n (.lst (ds.eraseIdx k))) else none
    | _ => none := (rfl)
@[simp] theorem mIxT_ap (mo : EM) (ma : AM) (rho : Rho) (st : Store) : mIxT mo ma rho st = (mo rho st).bind fun p => match p.1 with
  | .d (.tup ds) => (ma rho p.2).bind fun q => match q.1 with
    | [.d d] => if flat d && ds.all flat then (findF d ds).map fun j => (.d (.int (j : Nat)), q.2) else none
    | _ => none
  | _ => none := (rfl)
@[simp] theorem mSetF_ap (f : Str) (mo mv : EM) (rho : Rho) (st : Store) : mSetF f mo mv rho st = (mv rho st).bind fun p => (mo rho p.2).bind fun q => match q.1, p.1 with
  | .r n, .d y => match q.2[n]? with
    | some (.obj c ns ds) => if ns.length < 1000 then some (.nx, rho, q.2.set n (.obj c (putN ns ds f y).1 (putN ns ds f y).2)) else none
    | _ => none
  | _, _ => none := (rfl)
@[simp] theorem mSl_ap (ma : EM) (ml mh : OM) (rho : Rho) (st : Store) : mSl ma ml mh rho st = (ma rho st).bind fun p => (ml rho p.2).bind fun q => (mh rho q.2).bind fun r => (slV r.2 p.1 q.1 r.1).map fun c => (c, r.2) := (rfl)
@[simp] theorem mNoP_ap (rho : Rho) (st : Store) : mNoP rho st = some (none, st) := (rfl)
@[simp] theorem mPart_ap (m : EM) (rho : Rho) (st : Store) : mPart m rho st = (m rho st).bind fun p => match p.1 with
  | .d (.int i) => some (some i, p.2)
  | _ => none := (rfl)
@[simp] theorem slV_tup (st : Store) (ds : List D) (lo hi : Option Int) : slV st (.d (.tup ds)) lo hi = some (.d (.tup (cutD ds lo hi))) := (rfl)
@[simp] theorem slV_lst (st : Store) (ds : List D) (lo hi : Option Int) : slV st (.d (.lst ds)) lo hi = some (.d (.lst (cutD ds lo hi))) := (rfl)
@[simp] theorem slV_scr (st : Store) (ns : List Int) (lo hi : Option Int) : slV st (.d (.scr ns)) lo hi = some (.d (.lst ((cutD ns lo hi).map D.int))) := (rfl)
@[simp] theorem revV_tup (st : Store) (ds : List D) : revV st (.d (.tup ds)) = some (.d (.tup ds.reverse)) := (rfl)
@[simp] theorem revV_lst (st : Store) (ds : List D) : revV st (.d (.lst ds)) = some (.d (.lst ds.reverse)) := (rfl)
@[simp] theorem mDicN_ap (rho : Rho) (st : Store) : mDicN rho st = some (.r st.length, st ++ [.dic [] []]) := (rfl)
@[simp] theorem mLsRg1_ap (m : EM) (rho : Rho) (st : Store) : mLsRg1 m rho st = (m rho st).bind fun p => match p.1 with
  | .d (.int n) => if smallR 0 n then some (.d (.lst (rgD 0 (n - 0).toNat)), p.2) else none
  | _ => none := (rfl)
@[simp] theorem mLsRg1N_ap (m : EM) (rho : Rho) (st : Store) : mLsRg1N m rho st = (m rho st).bind fun p => match p.1 with
  | .d (.int n) => if smallR 0 n then some (.r p.2.length, p.2 ++ [.lst (rgD 0 (n - 0).toNat)]) else none
  | _ => none := (rfl)
theorem smallR_nat {n : Nat} (h : n ≤ 1000000) : smallR 0 (n : Nat) = true := by
  unfold smallR
  have : ((n : Int) - 0).toNat ≤ lim := by
    rw [Int.sub_zero, Int.toNat_natCast]
    exact Nat.le_trans h (by decide)
  rw [Bool.and_eq_true, Bool.and_eq_true]
  exact ⟨⟨by decide, big62_nat h⟩, decide_eq_true this⟩
@[simp] theorem rgD_nat (n : Nat) : rgD 0 n = (List.range n).map fun k => D.int (k : Nat) := by
  unfold rgD
  simp
@[simp] theorem mLenSet_ap (m : EM) (rho : Rho) (st : Store) : mLenSet m rho st = (m rho st).bind fun p => match p.1 with
  | .d (.tup ds) => (intsOf ds).bind fun ns => if ns.length < 1000 then some (.d (.int ((ddp ns).length : Nat)), p.2) else none
  | _ => none := (rfl)
@[simp] theorem runD_ap (n : Nat) (ms : SM) (st : Store) (as : List Vl) : runD n ms st as = (ms (as.map some ++ List.replicate (n - as.length) none) st).bind fun p => match p.1 with
  | .rt x => some (x, p.2.2)
  | .nx => some (.d .non, p.2.2)
  | _ => none := (rfl)
/-! ### loops -/
theorem lcLoop_of {α : Type} {g : GM} {t : TM} {m : EM} {rho : Rho} {st : Store} (φ : α → Itm) (c : α → Bool) (f : α → D) : ∀ (xs : List α), (∀ a ∈ xs, ∃ rho1, g (φ a) rho = some rho1 ∧ t rho1 st = some (c a, st) ∧ (c a = true → m rho1 st = some (.d (f a), st))) → lcLoop g t m rho (xs.map φ) st = some ((xs.filter c).map f, st)
  | [], _ => rfl
  | a :: xs, h => by
    obtain ⟨rho1, h1, h2, h3⟩ := h a List.mem_cons_self
    have ih := lcLoop_of φ c f xs fun b hb => h b (List.mem_cons_of_mem _ hb)
    rw [List.map_cons]
    unfold lcLoop
    rw [h1, Option.bind_some, h2, Option.bind_some]
    cases hc : c a with
    | false =>
      rw [if_neg Bool.false_ne_true, List.filter_cons_of_neg (by simp [hc])]
      exact ih
    | true =>
      rw [if_pos rfl, h3 hc, Option.bind_some, List.filter_cons_of_pos hc]
      show (lcLoop g t m rho (xs.map φ) st).map _ = _
      rw [ih]
      rfl
theorem mLc_of {α : Type} {mi : IM} {g : GM} {own : List Nat} {t : TM} {m : EM} {rho : Rho} {st : Store} (xs : List α) (φ : α → Itm) (c : α → Bool) (f : α → D) (hi : mi rho st = some (xs.map φ, st)) (hl : xs.length ≤ 1000000)
    (h : ∀ a ∈ xs, ∃ rho1, g (φ a) (unsetR rho own) = some rho1 ∧ t rho1 st = some (c a, st) ∧ (c a = true → m rho1 st = some (.d (f a), st))) : mLc mi g own t m rho st = some (.d (.lst ((xs.filter c).map f)), st) := by
  unfold mLc
  rw [hi, Option.bind_some, if_pos (by rw [List.length_map]; exact lim_ge hl), lcLoop_of φ c f xs h]
  rfl
/-- without tests -/
theorem mLc_all {α : Type} {mi : IM} {g : GM} {own : List Nat} {m : EM} {rho : Rho} {st : Store} (xs : List α) (φ : α → Itm) (f : α → D) (hi : mi rho st = some (xs.map φ, st)) (hl : xs.length ≤ 1000000)
    (h : ∀ a ∈ xs, ∃ rho1, g (φ a) (unsetR rho own) = some rho1 ∧ m rho1 st = some (.d (f a), st)) : mLc mi g own mYes m rho st = some (.d (.lst (xs.map f)), st) := by
  rw [mLc_of xs φ (fun _ => true) f hi hl fun a ha => by
    obtain ⟨r, h1, h2⟩ := h a ha
    exact ⟨r, h1, rfl, fun _ => h2⟩]
  rw [List.filter_eq_self.mpr fun _ _ => rfl]
/-- whose element may change the store -/
theorem mLc_rel {α : Type} {mi : IM} {g : GM} {own : List Nat} {m : EM} {rho : Rho} {st st1 : Store} (xs : List α) (φ : α → Itm) (R : Store → Prop) (P : α → D → Prop) (hi : mi rho st = some (xs.map φ, st1)) (hl : xs.length ≤ 1000000) (h0 : R st1)
    (h : ∀ a ∈ xs, ∀ s, R s → ∃ rho1 d s', g (φ a) (unsetR rho own) = some rho1 ∧ m rho1 s = some (.d d, s') ∧ R s' ∧ P a d) : ∃ ds st', mLc mi g own mYes m rho st = some (.d (.lst ds), st') ∧ R st' ∧ ds.length = xs.length ∧ ∀ d ∈ ds, ∃ a ∈ xs, P a d := by
  have key : ∀ (xs : List α) (s : Store), R s → (∀ a ∈ xs, ∀ s, R s → ∃ rho1 d s', g (φ a) (unsetR rho own) = some rho1 ∧ m rho1 s = some (.d d, s') ∧ R s' ∧ P a d) →
      ∃ ds st', lcLoop g mYes m (unsetR rho own) (xs.map φ) s = some (ds, st') ∧ R st' ∧ ds.length = xs.length ∧ ∀ d ∈ ds, ∃ a ∈ xs, P a d := by
    intro xs
    induction xs with
    | nil => intro s hs _; exact ⟨[], s, rfl, hs, rfl, fun _ h => by cases h⟩
    | cons a xs ih =>
      intro s hs h
      obtain ⟨rho1, d, s', h1, h2, h3, h4⟩ := h a List.mem_cons_self s hs
      obtain ⟨ds, st', g1, g2, g3, g4⟩ := ih s' h3 fun b hb => h b (List.mem_cons_of_mem _ hb)
      refine ⟨d :: ds, st', ?_, g2, by simp [g3], fun y hy => ?_⟩
      · rw [List.map_cons]
        unfold lcLoop
        rw [h1, Option.bind_some, mYes_ap, Option.bind_some, if_pos rfl, h2, Option.bind_some]
        show (lcLoop g mYes m (unsetR rho own) (xs.map φ) s').map _ = _
        rw [g1]
        rfl
      · rcases List.mem_cons.mp hy with rfl | hy
        · exact ⟨a, List.mem_cons_self, h4⟩
        · obtain ⟨b, hb, pb⟩ := g4 y hy
          exact ⟨b, List.mem_cons_of_mem _ hb, pb⟩
  obtain ⟨ds, st', g1, g2, g3, g4⟩ := key xs st1 h0 h
  refine ⟨ds, st', ?_, g2, g3, g4⟩
  unfold mLc
  rw [hi, Option.bind_some, if_pos (by rw [List.length_map]; exact lim_ge hl), g1]
  rfl
/-- a for that runs to its end -/
theorem forLoop_rel {α β : Type} {g : GM} {body : SM} (φ : α → Itm) (step : β → α → β) (R : β → Rho → Store → Prop) : ∀ (xs : List α), (∀ b a rho st, a ∈ xs → R b rho st → ∃ rho1 f rho2 st2, g (φ a) rho = some rho1 ∧ body rho1 st = some (f, rho2, st2) ∧ (f = .nx ∨ f = .ct) ∧ R (step b a) rho2 st2) →
    ∀ b rho st, R b rho st → ∃ rho' st', forLoop g body (xs.map φ) rho st = some (.nx, rho', st') ∧ R (xs.foldl step b) rho' st'
  | [], _, b, rho, st, hr => ⟨rho, st, rfl, hr⟩
  | a :: xs, h, b, rho, st, hr => by
    obtain ⟨rho1, f, rho2, st2, h1, h2, h3, h4⟩ := h b a rho st List.mem_cons_self hr
    obtain ⟨rho', st', g1, g2⟩ := forLoop_rel φ step R xs (fun b a rho st ha => h b a rho st (List.mem_cons_of_mem _ ha)) (step b a) rho2 st2 h4
    refine ⟨rho', st', ?_, g2⟩
    rw [List.map_cons]
    unfold forLoop
    rw [h1, Option.bind_some, h2, Option.bind_some]
    rcases h3 with rfl | rfl <;> exact g1
/-- .. with what is known after so many turns -/
theorem forLoop_pre {α : Type} {g : GM} {body : SM} (φ : α → Itm) (R : List α → Rho → Store → Prop) : ∀ (xs pre : List α), (∀ pre' a post rho st, pre ++ xs = pre' ++ a :: post → R pre' rho st → ∃ rho1 f rho2 st2, g (φ a) rho = some rho1 ∧ body rho1 st = some (f, rho2, st2) ∧ (f = .nx ∨ f = .ct) ∧ R (pre' ++ [a]) rho2 st2) →
    ∀ rho st, R pre rho st → ∃ rho' st', forLoop g body (xs.map φ) rho st = some (.nx, rho', st') ∧ R (pre ++ xs) rho' st'
  | [], pre, _, rho, st, hr => ⟨rho, st, rfl, by rw [List.append_nil]; exact hr⟩
  | a :: xs, pre, h, rho, st, hr => by
    obtain ⟨rho1, f, rho2, st2, h1, h2, h3, h4⟩ := h pre a xs rho st rfl hr
    have e : pre ++ a :: xs = (pre ++ [a]) ++ xs := by simp
    obtain ⟨rho', st', g1, g2⟩ := forLoop_pre φ R xs (pre ++ [a]) (fun p a post rho st he => h p a post rho st (e.trans he)) rho2 st2 h4
    refine ⟨rho', st', ?_, by rw [e]; exact g2⟩
    rw [List.map_cons]
    unfold forLoop
    rw [h1, Option.bind_some, h2, Option.bind_some]
    rcases h3 with rfl | rfl <;> exact g1
/-- a while that runs to its end: P by what is left -/
theorem whLoop_rel {t : TM} {body : SM} (P : Nat → Rho → Store → Prop) (Q : Rho → Store → Prop)
    (h : ∀ k rho st, P k rho st → (∃ st1, t rho st = some (false, st1) ∧ Q rho st1) ∨ ∃ st1 f rho' st' k', t rho st = some (true, st1) ∧ body rho st1 = some (f, rho', st') ∧ (f = .nx ∨ f = .ct) ∧ k' < k ∧ P k' rho' st') :
    ∀ (n k : Nat) rho st, P k rho st → k < n → ∃ rho' st', whLoop t body n rho st = some (.nx, rho', st') ∧ Q rho' st'
  | 0, _, _, _, _, hn => absurd hn (Nat.not_lt_zero _)
  | n + 1, k, rho, st, hp, hn => by
    unfold whLoop
    rcases h k rho st hp with ⟨st1, h1, h2⟩ | ⟨st1, f, rho', st', k', h1, h2, h3, h4, h5⟩
    · refine ⟨rho, st1, ?_, h2⟩
      rw [h1, Option.bind_some, if_neg Bool.false_ne_true]
    · obtain ⟨r, s, g1, g2⟩ := whLoop_rel P Q h n k' rho' st' h5 (by omega)
      refine ⟨r, s, ?_, g2⟩
      rw [h1, Option.bind_some, if_pos rfl, h2, Option.bind_some]
      rcases h3 with rfl | rfl <;> exact g1
@[simp] theorem take_snoc (st : Store) (c : Cell) : (st ++ [c]).take (st.length + 1) = st ++ [c] := List.take_of_length_le (by simp)
@[simp] theorem set_snoc (st : Store) (c c' : Cell) : (st ++ [c]).set st.length c' = st ++ [c'] := by
  rw [List.set_append_right _ _ (Nat.le_refl _)]
  simp
@[simp] theorem set_app0 (st l : Store) (c : Cell) : (st ++ l).set st.length c = st ++ l.set 0 c := by
  rw [List.set_append_right _ _ (Nat.le_refl _), Nat.sub_self]
@[simp] theorem set_appk (st l : Store) (c : Cell) (k : Nat) : (st ++ l).set (st.length + k) c = st ++ l.set k c := by
  rw [List.set_append_right _ _ (Nat.le_add_right _ _), Nat.add_sub_cancel_left]
@[simp] theorem flat_int (i : Int) : flat (.int i) = true := (rfl)
@[simp] theorem flat_str (i : Str) : flat (.str i) = true := (rfl)
@[simp] theorem flat_non : flat .non = true := (rfl)
@[simp] theorem flat_bl (b : Bool) : flat (.bl b) = true := (rfl)
theorem exit_last (st : Store) (c : Cell) : exitV st.length (.r st.length, st ++ [c]) = (frzC c).map fun d => (.d d, st) := by
  unfold exitV
  simp
theorem sum_cast {α : Type} (f : α → Nat) : ∀ xs : List α, (xs.map fun a => ((f a : Nat) : Int)).sum = (((xs.map f).sum : Nat) : Int)
  | [] => rfl
  | a :: xs => by
    rw [List.map_cons, List.map_cons, List.sum_cons, List.sum_cons, sum_cast f xs]
    omega
/-! ### places of ints -/
@[simp] theorem eqF_int (i j : Int) : eqF (.int i) (.int j) = decide (i = j) := by
  show eqV (.int i) (.int j) = _
  by_cases h : i = j
  · subst h
    simp [eqV]
  · simp [eqV, h]
theorem flat_ints (ns : List Int) : (ns.map D.int).all flat = true := by
  rw [List.all_map]
  exact List.all_eq_true.mpr fun _ _ => rfl
theorem findF_ints (x : Int) (ns : List Int) : findF (.int x) (ns.map D.int) = ns.findIdx? (· == x) := by
  unfold findF
  rw [List.findIdx?_map]
  have e : ((fun z => eqF z (.int x)) ∘ D.int) = (· == x) := by
    funext z
    show eqF (.int z) (.int x) = _
    rw [eqF_int]
    by_cases h : z = x <;> simp [h]
  rw [e]
@[simp] theorem lenV1_tup (st : Store) (ds : List D) : lenV1 st (.d (.tup ds)) = some (.d (.int (ds.length : Nat))) := (rfl)
@[simp] theorem lenV1_lst (st : Store) (ds : List D) : lenV1 st (.d (.lst ds)) = some (.d (.int (ds.length : Nat))) := (rfl)
@[simp] theorem lenV1_r (st : Store) (n : Nat) : lenV1 st (.r n) = match st[n]? with
    | some (.lst ds) => some (.d (.int (ds.length : Nat)))
    | some (.grid rs) => some (.d (.int (rs.length : Nat)))
    | _ => none := (rfl)
/-! ### == -/
@[simp] theorem eqV2_d (st : Store) (x y : D) : eqV2 st (.d x) (.d y) = if plain 60 x && plain 60 y then some (.d (.bl (eqD x y))) else none := (rfl)
@[simp] theorem neV2_d (st : Store) (x y : D) : neV2 st (.d x) (.d y) = if plain 60 x && plain 60 y then some (.d (.bl (!eqD x y))) else none := (rfl)
@[simp] theorem plain_non (n : Nat) : plain n .non = true := by cases n <;> rfl
@[simp] theorem plain_bl (n : Nat) (b : Bool) : plain n (.bl b) = true := by cases n <;> rfl
@[simp] theorem plain_int (n : Nat) (i : Int) : plain n (.int i) = true := by cases n <;> rfl
@[simp] theorem plain_str (n : Nat) (x : Str) : plain n (.str x) = PyData.strOk x := by cases n <;> rfl
@[simp] theorem plain_tup (n : Nat) (ds : List D) : plain (n + 1) (.tup ds) = ds.all (plain n) := (rfl)
@[simp] theorem plain_lst (n : Nat) (ds : List D) : plain (n + 1) (.lst ds) = ds.all (plain n) := (rfl)
@[simp] theorem eqD_int (i j : Int) : eqD (.int i) (.int j) = decide (i = j) := by
  show (i == j) = _
  by_cases h : i = j <;> simp [h]
@[simp] theorem eqD_bl (i j : Bool) : eqD (.bl i) (.bl j) = (i == j) := (rfl)
@[simp] theorem eqD_non : eqD .non .non = true := (rfl)
@[simp] theorem eqD_tup_nil : eqD (.tup []) (.tup []) = true := (rfl)
@[simp] theorem eqD_tup_cons (x y : D) (xs ys : List D) : eqD (.tup (x :: xs)) (.tup (y :: ys)) = (eqD x y && eqD (.tup xs) (.tup ys)) := (rfl)
@[simp] theorem eqD_tup_nc (x : D) (xs : List D) : eqD (.tup []) (.tup (x :: xs)) = false := (rfl)
@[simp] theorem eqD_tup_cn (x : D) (xs : List D) : eqD (.tup (x :: xs)) (.tup []) = false := (rfl)
@[simp] theorem eqD_lst_nil : eqD (.lst []) (.lst []) = true := (rfl)
@[simp] theorem eqD_lst_cons (x y : D) (xs ys : List D) : eqD (.lst (x :: xs)) (.lst (y :: ys)) = (eqD x y && eqD (.lst xs) (.lst ys)) := (rfl)
@[simp] theorem eqD_lst_nc (x : D) (xs : List D) : eqD (.lst []) (.lst (x :: xs)) = false := (rfl)
@[simp] theorem eqD_lst_cn (x : D) (xs : List D) : eqD (.lst (x :: xs)) (.lst []) = false := (rfl)
mutual
def noB : D → Bool
  | .non => true
  | .int _ => true
  | .str _ => true
  | .tup ds => noBs ds
  | .lst ds => noBs ds
  | _ => false
def noBs : List D → Bool
  | [] => true
  | d :: ds => noB d && noBs ds
end
theorem noBs_map {α : Type} (f : α → D) : ∀ (xs : List α), (∀ a ∈ xs, noB (f a) = true) → noBs (xs.map f) = true
  | [], _ => rfl
  | a :: xs, h => by
    rw [List.map_cons]
    show (noB (f a) && noBs (xs.map f)) = true
    rw [h a List.mem_cons_self, noBs_map f xs fun b hb => h b (List.mem_cons_of_mem _ hb)]
    rfl
mutual
theorem eqD_iff : ∀ (a b : D), noB a = true → noB b = true → (eqD a b = true ↔ a = b)
  | .non, b, _, hb => by cases b <;> first | (simp [noB] at hb; done) | simp [eqD, py, PyData.eqv]
  | .int i, b, _, hb => by cases b <;> first | (simp [noB] at hb; done) | simp [eqD, py, PyData.eqv]
  | .str x, b, _, hb => by cases b <;> first | (simp [noB] at hb; done) | simp [eqD, py, PyData.eqv]
  | .tup ds, b, ha, hb => by
    cases b with
    | tup es =>
      have := eqDs_iff ds es (by simpa [noB] using ha) (by simpa [noB] using hb)
      simpa [eqD, py, PyData.eqv] using this
    | _ => first | (simp [noB] at hb; done) | simp [eqD, py, PyData.eqv]
  | .lst ds, b, ha, hb => by
    cases b with
    | lst es =>
      have := eqDs_iff ds es (by simpa [noB] using ha) (by simpa [noB] using hb)
      simpa [eqD, py, PyData.eqv] using this
    | _ => first | (simp [noB] at hb; done) | simp [eqD, py, PyData.eqv]
  | .bl _, _, ha, _ => by simp [noB] at ha
  | .dic _ _, _, ha, _ => by simp [noB] at ha
  | .obj _ _ _, _, ha, _ => by simp [noB] at ha
  | .scr _, _, ha, _ => by simp [noB] at ha
theorem eqDs_iff : ∀ (a b : List D), noBs a = true → noBs b = true → (PyData.eqvAll (pys a) (pys b) = true ↔ a = b)
  | [], [], _, _ => by simp [pys, PyData.eqvAll]
  | [], _ :: _, _, _ => by simp [pys, PyData.eqvAll]
  | _ :: _, [], _, _ => by simp [pys, PyData.eqvAll]
  | x :: xs, y :: ys, ha, hb => by
    have ha' : noB x = true ∧ noBs xs = true := by simpa [noBs] using ha
    have hb' : noB y = true ∧ noBs ys = true := by simpa [noBs] using hb
    have h1 := eqD_iff x y ha'.1 hb'.1
    have h2 := eqDs_iff xs ys ha'.2 hb'.2
    simp only [pys, PyData.eqvAll, Bool.and_eq_true, List.cons.injEq]
    rw [h2]
    exact ⟨fun h => ⟨h1.mp h.1, h.2⟩, fun h => ⟨h1.mpr h.1, h.2⟩⟩
end
theorem eqD_self {a : D} (h : noB a = true) : eqD a a = true := (eqD_iff a a h h).mpr rfl
end Mini

set_option Elab.async false
set_option linter.all false
set_option maxRecDepth 100000
namespace Mini
open PySem PySem.Spec PyProof.Rows L2
/-! runs of bodies, by what holds behind -/
def Runs (ms : SM) (rho : Rho) (st : Store) (Q : Fl → Rho → Store → Prop) : Prop := ∃ f rho' st', ms rho st = some (f, rho', st') ∧ Q f rho' st'
def Gives (cf : FM) (st : Store) (as : List Vl) (Q : Vl → Store → Prop) : Prop := ∃ c st', cf st as = some (c, st') ∧ Q c st'
section
variable {ms m1 m2 body : SM} {m : EM} {t : TM} {rho rho' : Rho} {st st1 st' : Store} {Q : Fl → Rho → Store → Prop} {x : Vl}
theorem Gives.eq {cf : FM} {st : Store} {as : List Vl} {x : Vl} {y : Store} (h : Gives cf st as fun c s => c = x ∧ s = y) : cf st as = some (x, y) := by
  obtain ⟨c, s, e, rfl, rfl⟩ := h
  exact e
theorem Gives.of {cf : FM} {st : Store} {as : List Vl} {c : Vl} {s : Store} {Q : Vl → Store → Prop} (e : cf st as = some (c, s)) (q : Q c s) : Gives cf st as Q := ⟨c, s, e, q⟩
theorem Gives.mono {cf : FM} {st : Store} {as : List Vl} {Q Q' : Vl → Store → Prop} (h : Gives cf st as Q) (q : ∀ c s, Q c s → Q' c s) : Gives cf st as Q' := by
  obtain ⟨c, s, e, h⟩ := h
  exact ⟨c, s, e, q c s h⟩
/-- a def's run -/
theorem Gives.run {n : Nat} {as : List Vl} {Q : Vl → Store → Prop} (h : Runs ms (as.map some ++ List.replicate (n - as.length) none) st fun f _ s => match f with
    | .rt x => Q x s
    | .nx => Q (.d .non) s
    | _ => False) : Gives (runD n ms) st as Q := by
  obtain ⟨f, r, s, e, q⟩ := h
  unfold Gives runD
  rw [e]
  cases f with
  | rt x => exact ⟨x, s, rfl, q⟩
  | nx => exact ⟨_, s, rfl, q⟩
  | bk => exact q.elim
  | ct => exact q.elim
theorem Runs.of {f : Fl} (e : ms rho st = some (f, rho', st')) (q : Q f rho' st') : Runs ms rho st Q := ⟨f, rho', st', e, q⟩
theorem Runs.mono {Q' : Fl → Rho → Store → Prop} (h : Runs ms rho st Q) (q : ∀ f r s, Q f r s → Q' f r s) : Runs ms rho st Q' := by
  obtain ⟨f, r, s, e, h⟩ := h
  exact ⟨f, r, s, e, q f r s h⟩
theorem Runs.seq (h : Runs m1 rho st fun f r s => match f with
    | .nx => Runs m2 r s Q
    | f => Q f r s) : Runs (mSeq m1 m2) rho st Q := by
  obtain ⟨f, r, s, e, q⟩ := h
  unfold Runs mSeq
  rw [e]
  cases f with
  | nx => exact q
  | rt x => exact ⟨_, r, s, rfl, q⟩
  | bk => exact ⟨_, r, s, rfl, q⟩
  | ct => exact ⟨_, r, s, rfl, q⟩
theorem Runs.next (q : Q .nx rho st) : Runs mNext rho st Q := ⟨_, _, _, rfl, q⟩
theorem Runs.set {i : Nat} (h : m rho st = some (x, st1)) (q : Q .nx (rho.set i (some x)) st1) : Runs (mSet i m) rho st Q := ⟨_, _, _, by rw [mSet_ap, h]; rfl, q⟩
theorem Runs.drop (h : m rho st = some (x, st1)) (q : Q .nx rho st1) : Runs (mDrop m) rho st Q := ⟨_, _, _, by rw [mDrop_ap, h]; rfl, q⟩
theorem Runs.ret (h : m rho st = some (x, st1)) (q : Q (.rt x) rho st1) : Runs (mRet m) rho st Q := ⟨_, _, _, by rw [mRet_ap, h]; rfl, q⟩
theorem Runs.ite {b : Bool} (h : t rho st = some (b, st1)) (q : (b = true → Runs m1 rho st1 Q) ∧ (b = false → Runs m2 rho st1 Q)) : Runs (mIf t m1 m2) rho st Q := by
  unfold Runs
  rw [mIf_ap, h, Option.bind_some]
  cases b with
  | true => rw [if_pos rfl]; exact q.1 rfl
  | false => rw [if_neg Bool.false_ne_true]; exact q.2 rfl
theorem Runs.ifT (h : t rho st = some (true, st1)) (q : Runs m1 rho st1 Q) : Runs (mIf t m1 m2) rho st Q := Runs.ite h ⟨fun _ => q, fun z => by cases z⟩
theorem Runs.ifF (h : t rho st = some (false, st1)) (q : Runs m2 rho st1 Q) : Runs (mIf t m1 m2) rho st Q := Runs.ite h ⟨fun z => (by cases z), fun _ => q⟩
theorem Runs.par {is : List Nat} {ma : AM} {xs : List Vl} (h : ma rho st = some (xs, st1)) (h2 : setAll is xs rho = some rho') (q : Q .nx rho' st1) : Runs (mPar is ma) rho st Q := ⟨_, _, _, by rw [mPar_ap, h, Option.bind_some, h2]; rfl, q⟩
theorem Runs.unp {g : GM} {d : D} (h : m rho st = some (.d d, st1)) (h2 : g (.one d) rho = some rho') (q : Q .nx rho' st1) : Runs (mUnp g m) rho st Q := ⟨_, _, _, by rw [mUnp_ap, h, Option.bind_some]; show (g (.one d) rho).map _ = _; rw [h2]; rfl, q⟩
theorem Runs.for_ {α : Type} {mi : IM} {g : GM} (xs : List α) (φ : α → Itm) (R : List α → Rho → Store → Prop) (hi : mi rho st = some (xs.map φ, st1)) (h0 : R [] rho st1)
    (h : ∀ pre a post rho st, xs = pre ++ a :: post → R pre rho st → ∃ rho1, g (φ a) rho = some rho1 ∧ Runs body rho1 st fun f r s => (f = .nx ∨ f = .ct) ∧ R (pre ++ [a]) r s)
    (q : ∀ rho st, R xs rho st → Q .nx rho st) : Runs (mFor mi g body) rho st Q := by
  obtain ⟨rho', st', e, hr⟩ := forLoop_pre (g := g) (body := body) φ R xs [] (fun pre a post rho st hp hr => by
    obtain ⟨rho1, h1, f, r, s, h2, h3, h4⟩ := h pre a post rho st hp hr
    exact ⟨rho1, f, r, s, h1, h2, h3, h4⟩) rho st1 h0
  exact ⟨.nx, rho', st', by rw [mFor_ap, hi, Option.bind_some]; exact e, q _ _ hr⟩
theorem range_pre {n a : Nat} {pre post : List Nat} (hp : List.range n = pre ++ a :: post) : pre = List.range a ∧ a < n := by
  have hl : pre.length < n := by
    have := congrArg List.length hp
    simp at this
    omega
  have h1 : (List.range n)[pre.length]? = some a := by rw [hp]; simp
  rw [List.getElem?_range hl] at h1
  cases h1
  refine ⟨?_, hl⟩
  have h2 : (List.range n).take pre.length = pre := by rw [hp]; simp
  have h3 : (List.range n).take pre.length = List.range pre.length := by
    rw [List.take_range]
    congr 1
    omega
  exact h2.symm.trans h3
theorem Runs.forN {mi : IM} {g : GM} {n : Nat} (R : Nat → Rho → Store → Prop) (hi : mi rho st = some ((List.range n).map fun (k : Nat) => Itm.one (.int (k : Nat)), st1)) (h0 : R 0 rho st1)
    (h : ∀ k rho st, k < n → R k rho st → ∃ rho1, g (.one (.int (k : Nat))) rho = some rho1 ∧ Runs body rho1 st fun f r s => (f = .nx ∨ f = .ct) ∧ R (k + 1) r s)
    (q : ∀ rho st, R n rho st → Q .nx rho st) : Runs (mFor mi g body) rho st Q := by
  refine Runs.for_ (List.range n) (fun (k : Nat) => Itm.one (.int (k : Nat))) (fun pre rho st => R pre.length rho st) hi h0 (fun pre a post rho st hp hr => ?_) (fun rho st hr => q rho st (by simpa using hr))
  obtain ⟨e, ha⟩ := range_pre hp
  have : pre.length = a := by rw [e, List.length_range]
  rw [this] at hr
  obtain ⟨rho1, h1, h2⟩ := h a rho st ha hr
  refine ⟨rho1, h1, h2.mono fun f r s ⟨q1, q2⟩ => ⟨q1, ?_⟩⟩
  rw [List.length_append, this]
  exact q2
/-- a for that may be left by return, break -/
theorem forLoop_out {α : Type} {g : GM} (φ : α → Itm) (R : List α → Rho → Store → Prop) : ∀ (xs pre : List α),
    (∀ pre' a post rho st, pre ++ xs = pre' ++ a :: post → R pre' rho st → ∃ rho1, g (φ a) rho = some rho1 ∧ Runs body rho1 st fun f r s => match f with
      | .nx => R (pre' ++ [a]) r s
      | .ct => R (pre' ++ [a]) r s
      | .bk => Q .nx r s
      | .rt x => Q (.rt x) r s) → (∀ rho st, R (pre ++ xs) rho st → Q .nx rho st) → ∀ rho st, R pre rho st → Runs (forLoop g body (xs.map φ)) rho st Q
  | [], pre, _, q, rho, st, hr => ⟨.nx, rho, st, rfl, q _ _ (by rw [List.append_nil]; exact hr)⟩
  | a :: xs, pre, h, q, rho, st, hr => by
    obtain ⟨rho1, h1, f, r, s, h2, h3⟩ := h pre a xs rho st rfl hr
    have e : pre ++ a :: xs = (pre ++ [a]) ++ xs := by simp
    have go := forLoop_out φ R xs (pre ++ [a]) (fun p a post rho st he => h p a post rho st (e.trans he)) (fun rho st hr => q rho st (by rw [e]; exact hr))
    unfold Runs
    rw [List.map_cons]
    unfold forLoop
    rw [h1, Option.bind_some, h2, Option.bind_some]
    cases f with
    | nx => exact go r s h3
    | ct => exact go r s h3
    | bk => exact ⟨_, _, _, rfl, h3⟩
    | rt x => exact ⟨_, _, _, rfl, h3⟩
theorem Runs.forOut {α : Type} {mi : IM} {g : GM} (xs : List α) (φ : α → Itm) (R : List α → Rho → Store → Prop) (hi : mi rho st = some (xs.map φ, st1)) (h0 : R [] rho st1)
    (h : ∀ pre a post rho st, xs = pre ++ a :: post → R pre rho st → ∃ rho1, g (φ a) rho = some rho1 ∧ Runs body rho1 st fun f r s => match f with
      | .nx => R (pre ++ [a]) r s
      | .ct => R (pre ++ [a]) r s
      | .bk => Q .nx r s
      | .rt x => Q (.rt x) r s)
    (q : ∀ rho st, R xs rho st → Q .nx rho st) : Runs (mFor mi g body) rho st Q := by
  have := forLoop_out (Q := Q) (g := g) (body := body) φ R xs [] h q rho st1 h0
  unfold Runs at this ⊢
  rw [mFor_ap, hi, Option.bind_some]
  exact this
theorem Runs.while_ {N : Nat} (P : Nat → Rho → Store → Prop) (k : Nat) (h0 : P k rho st) (hk : k < N)
    (h : ∀ k rho st, P k rho st → ∃ b st1, t rho st = some (b, st1) ∧ (b = false → Q .nx rho st1) ∧ (b = true → Runs body rho st1 fun f r s => (f = .nx ∨ f = .ct) ∧ ∃ k', k' < k ∧ P k' r s)) : Runs (whLoop t body N) rho st Q := by
  obtain ⟨r, s, e, q⟩ := whLoop_rel (t := t) (body := body) P (Q .nx) (fun k rho st hp => by
    obtain ⟨b, st1, h1, h2, h3⟩ := h k rho st hp
    cases b with
    | false => exact .inl ⟨st1, h1, h2 rfl⟩
    | true =>
      obtain ⟨f, r, s, e, hf, k', hk', hp'⟩ := h3 rfl
      exact .inr ⟨st1, f, r, s, k', h1, e, hf, hk', hp'⟩) N k rho st h0 hk
  exact ⟨.nx, r, s, e, q⟩
/-- what a call gives: x, and the store st' behind -/
inductive RetOk (b : Nat) (x : D) (st' : Store) : Fl → Store → Prop
  | val (e : Store) : st'.length = b → RetOk b x st' (.rt (.d x)) (st' ++ e)
  | ref (e : Store) (k : Nat) (c : Cell) : st'.length = b → b ≤ k → (st' ++ e)[k]? = some c → frzC c = some x → RetOk b x st' (.rt (.r k)) (st' ++ e)
  | non (e : Store) : st'.length = b → x = .non → RetOk b x st' .nx (st' ++ e)
theorem RetOk.v {b : Nat} {x : D} {st' s : Store} (l : st'.length = b) (h : ∃ e, s = st' ++ e) : RetOk b x st' (.rt (.d x)) s := by
  obtain ⟨e, rfl⟩ := h
  exact .val e l
theorem RetOk.v0 {x : D} {st : Store} : RetOk st.length x st (.rt (.d x)) st := .v rfl ⟨[], by simp⟩
theorem RetOk.r1 {x : D} {st : Store} {c : Cell} {e : Store} (h : frzC c = some x) : RetOk st.length x st (.rt (.r st.length)) (st ++ c :: e) := .ref _ _ c rfl (Nat.le_refl _) (by simp) h
theorem callV_run {n : Nat} {ms : SM} {as : List Vl} {st st' : Store} {x : D} (h : Runs ms (as.map some ++ List.replicate (n - as.length) none) st fun f _ s => RetOk st.length x st' f s) : callV (runD n ms) st as = some (.d x, st') := by
  obtain ⟨f, r, s, he, q⟩ := h
  unfold callV runD
  rw [he]
  cases q with
  | val e l =>
    show some (Vl.d x, (st' ++ e).take st.length) = _
    rw [← l]
    exact congrArg (fun z => some (Vl.d x, z)) (List.take_left)
  | ref e k c l hk hc hf =>
    show exitV st.length (.r k, st' ++ e) = _
    unfold exitV
    simp only
    rw [if_neg (by omega), hc]
    simp only [hf]
    rw [← l]
    exact congrArg (fun z => some (Vl.d x, z)) (List.take_left)
  | non e l hx =>
    subst hx
    show some (Vl.d .non, (st' ++ e).take st.length) = _
    rw [← l]
    exact congrArg (fun z => some (Vl.d .non, z)) (List.take_left)
/-! ### lists that may change, made by a comprehension -/
theorem lcLoopG_of {α : Type} {g : GM} {m : EM} {rho : Rho} {st : Store} (φ : α → Itm) (f : α → List D) : ∀ (xs : List α), (∀ a ∈ xs, ∃ rho1, g (φ a) rho = some rho1 ∧ m rho1 st = some (.r st.length, st ++ [.lst (f a)])) → lcLoopG g mYes m rho (xs.map φ) st = some (xs.map f, st)
  | [], _ => rfl
  | a :: xs, h => by
    obtain ⟨rho1, h1, h2⟩ := h a List.mem_cons_self
    have ih := lcLoopG_of φ f xs fun b hb => h b (List.mem_cons_of_mem _ hb)
    rw [List.map_cons]
    unfold lcLoopG
    rw [h1, Option.bind_some, mYes_ap, Option.bind_some, if_pos rfl, h2, Option.bind_some]
    have e : (st ++ [Cell.lst (f a)]).getLast? = some (.lst (f a)) := by simp
    have e3 : (st ++ [Cell.lst (f a)]).take st.length = st := by simp
    simp only [e]
    rw [if_pos ⟨by simp, trivial⟩, e3, ih]
    rfl
theorem mLcG_all {α : Type} {mi : IM} {g : GM} {own : List Nat} {m : EM} (xs : List α) (φ : α → Itm) (f : α → List D) (hi : mi rho st = some (xs.map φ, st)) (hl : xs.length ≤ 1000000)
    (h : ∀ a ∈ xs, ∃ rho1, g (φ a) (unsetR rho own) = some rho1 ∧ m rho1 st = some (.r st.length, st ++ [.lst (f a)])) : mLcG mi g own mYes m rho st = some (.r st.length, st ++ [.grid (xs.map f)]) := by
  unfold mLcG
  rw [hi, Option.bind_some, if_pos (by rw [List.length_map]; exact lim_ge hl), lcLoopG_of φ f xs h]
  rfl
theorem mLcN_of {α : Type} {mi : IM} {g : GM} {own : List Nat} {t : TM} {m : EM} (xs : List α) (φ : α → Itm) (c : α → Bool) (f : α → D) (hi : mi rho st = some (xs.map φ, st)) (hl : xs.length ≤ 1000000)
    (h : ∀ a ∈ xs, ∃ rho1, g (φ a) (unsetR rho own) = some rho1 ∧ t rho1 st = some (c a, st) ∧ (c a = true → m rho1 st = some (.d (f a), st))) : mLcN mi g own t m rho st = some (.r st.length, st ++ [.lst ((xs.filter c).map f)]) := by
  unfold mLcN
  rw [hi, Option.bind_some, if_pos (by rw [List.length_map]; exact lim_ge hl), lcLoop_of φ c f xs h]
  rfl
theorem mLcN_all {α : Type} {mi : IM} {g : GM} {own : List Nat} {m : EM} (xs : List α) (φ : α → Itm) (f : α → D) (hi : mi rho st = some (xs.map φ, st)) (hl : xs.length ≤ 1000000)
    (h : ∀ a ∈ xs, ∃ rho1, g (φ a) (unsetR rho own) = some rho1 ∧ m rho1 st = some (.d (f a), st)) : mLcN mi g own mYes m rho st = some (.r st.length, st ++ [.lst (xs.map f)]) := by
  rw [mLcN_of xs φ (fun _ => true) f hi hl fun a ha => by
    obtain ⟨r, h1, h2⟩ := h a ha
    exact ⟨r, h1, rfl, fun _ => h2⟩]
  rw [List.filter_eq_self.mpr fun _ _ => rfl]
/-! ### dicts by ints -/
theorem look_map (g : Nat → D) (y : Nat) : ∀ F : List Nat, lookD (F.map fun k => Sum.inl ((k : Nat) : Int)) (F.map g) (.inl (y : Nat)) = if y ∈ F then some (g y) else none
  | [] => rfl
  | x :: F => by
    have ih := look_map g y F
    unfold lookD at ih ⊢
    rw [List.map_cons, List.map_cons, List.zip_cons_cons, List.find?_cons]
    by_cases h : x = y
    · subst h
      simp
    · have h2 : ¬ ((x : Int) = (y : Int)) := by omega
      have h3 : y ∈ x :: F ↔ y ∈ F := by simp [Ne.symm h]
      simp only [Sum.inl.injEq, h2, decide_false, h3]
      exact ih
theorem put_new (g : Nat → D) (y : Nat) {F : List Nat} (h : y ∉ F) : putD (F.map fun k => Sum.inl ((k : Nat) : Int)) (F.map g) (.inl (y : Nat)) (g y) = ((F ++ [y]).map (fun k => Sum.inl ((k : Nat) : Int)), (F ++ [y]).map g) := by
  unfold putD
  rw [if_neg]
  · simp
  · rw [List.any_map]
    simp
    intro x hx e
    exact h (by have : x = y := by omega
                rw [← this]; exact hx)
theorem inB_dic {g : Nat → D} {F : List Nat} {n : Nat} (y : Nat) (h : st[n]? = some (.dic (F.map fun k => Sum.inl ((k : Nat) : Int)) (F.map g))) : inB st (.d (.int (y : Nat))) (.r n) = some (decide (y ∈ F)) := by
  unfold inB
  have e : dicOf st (.r n) = some (F.map fun k => Sum.inl ((k : Nat) : Int), F.map g) := by
    show (match st[n]? with
      | some (.dic ks ds) => some (ks, ds)
      | _ => none) = _
    rw [h]
  rw [e]
  show some (lookD (F.map fun k => Sum.inl ((k : Nat) : Int)) (F.map g) (.inl (y : Nat))).isSome = _
  rw [look_map]
  by_cases hy : y ∈ F <;> simp [hy]
theorem in_dic' {g : Nat → D} {F : List Nat} {n : Nat} (y : Nat) (h : st[n]? = some (.dic (F.map fun k => Sum.inl ((k : Nat) : Int)) (F.map g))) : inV2 st (.d (.int (y : Nat))) (.r n) = some (.d (.bl (decide (y ∈ F)))) := by
  unfold inV2
  rw [inB_dic y h]
  rfl
theorem nin_dic' {g : Nat → D} {F : List Nat} {n : Nat} (y : Nat) (h : st[n]? = some (.dic (F.map fun k => Sum.inl ((k : Nat) : Int)) (F.map g))) : ninV2 st (.d (.int (y : Nat))) (.r n) = some (.d (.bl (!decide (y ∈ F)))) := by
  unfold ninV2
  rw [inB_dic y h]
  rfl
end
end Mini

set_option Elab.async false
set_option linter.all false
set_option maxRecDepth 100000
namespace K53
open PySem PySem.Spec PyProof.Rows L2 Mini
def b_L_hand : SM :=
      (mSeq (mSet 1 (mLc (iSeq (mSl (mVar 0) mNoP (mPart (mC (.int 63))))) (gNm 2) [2] mYes (mBi (one absV1) (mCons (mBi (one intV1) (mCons (mVar 2) mNil)) mNil))))
      (mRet (mLstN (mCons (mVar 1) (mCons (mC (.int 0)) (mCons (mC (.int 0)) (mCons (mOp addV (mC (.int 173)) (mBi (one lenV1) (mCons (mVar 1) mNil))) (mCons (mC (.int 0)) mNil))))))))
def d_L_hand : FM := runD 3 b_L_hand
def b_is_integer : SM :=
      (mRet (mAndV (mIsi "int" (mVar 0)) (mUn notV (mIsi "bool" (mVar 0)))))
def d_is_integer : FM := runD 1 b_is_integer
def b_is_within : SM :=
      (mRet (mAndV (mCall 1 d_is_integer (mCons (mVar 0) mNil)) (mChain leV leV (mVar 1) (mVar 0) (mVar 2))))
def d_is_within : FM := runD 3 b_is_within
def b_is_sized : SM :=
      (mRet (mAndV (mIsi "tuple" (mVar 0)) (mChain leV leV (mVar 1) (mBi (one lenV1) (mCons (mVar 0) mNil)) (mVar 2))))
def d_is_sized : FM := runD 3 b_is_sized
def b_is_tuple : SM :=
      (mRet (mAndV (mIsi "tuple" (mVar 0)) (mOp eqV2 (mBi (one lenV1) (mCons (mVar 0) mNil)) (mVar 1))))
def d_is_tuple : FM := runD 2 b_is_tuple
def b_is_order : SM :=
      (mSeq (mIf (mOrT (mNotT (mT (mCall 2 d_is_tuple (mCons (mVar 0) (mCons (mVar 1) mNil))))) (mNotT (mT (mBi (one allV1) (mCons (mLc (iSeq (mVar 0)) (gNm 2) [2] mYes (mCall 3 d_is_within (mCons (mVar 2) (mCons (mC (.int 0)) (mCons (mOp subV (mVar 1) (mC (.int 1))) mNil))))) mNil))))) (mRet (mC (.bl false))) mNext)
      (mRet (mOp eqV2 (mLenSet (mVar 0)) (mVar 1))))
def d_is_order : FM := runD 3 b_is_order
def b_Ballots___init__ : SM :=
      (mSeq (mIf (mOrT (mNotT (mT (mCall 3 d_is_within (mCons (mVar 1) (mCons (mC (.int 1)) (mCons (mC (.int 5)) mNil)))))) (mNotT (mT (mCall 3 d_is_sized (mCons (mVar 2) (mCons (mC (.int 1)) (mCons (mC (.int 12)) mNil))))))) mStop mNext)
      (mSeq (mIf (mNotT (mT (mBi (one allV1) (mCons (mLc (iSeq (mVar 2)) (gNm 3) [3] mYes (mAndV (mCall 2 d_is_tuple (mCons (mVar 3) (mCons (mC (.int 2)) mNil))) (mAndV (mCall 3 d_is_within (mCons (mOp ixV (mVar 3) (mC (.int 0))) (mCons (mC (.int 1)) (mCons (mC (.int 99)) mNil)))) (mCall 2 d_is_order (mCons (mOp ixV (mVar 3) (mC (.int 1))) (mCons (mVar 1) mNil)))))) mNil)))) mStop mNext)
      (mSeq (mSetF "many" (mVar 0) (mVar 1))
      (mSetF "rows" (mVar 0) (mVar 2)))))
def d_Ballots___init__ : FM := runD 4 b_Ballots___init__
def b_for_one : SM :=
      (mRet (mBi (one sumV1) (mCons (mLc (iSeq (mVar 0)) (gTp [(gNm 3), (gNm 4)]) [3, 4] (mB (mOp ltV (mIxT (mVar 4) (mCons (mVar 1) mNil)) (mIxT (mVar 4) (mCons (mVar 2) mNil)))) (mVar 3)) mNil)))
def d_for_one : FM := runD 5 b_for_one
def b_widest : SM :=
      (mSeq (mSet 1 (mUn (fldV "many") (mVar 0)))
      (mSeq (mSet 2 (mLcG (iAs rngOf1 (mCons (mVar 1) mNil)) (gNm 3) [3] mYes (mLcN (iAs rngOf1 (mCons (mVar 1) mNil)) (gNm 4) [4] mYes (mCall 3 d_for_one (mCons (mUn (fldV "rows") (mVar 0)) (mCons (mVar 3) (mCons (mVar 4) mNil)))))))
      (mSeq (mFor (iAs rngOf1 (mCons (mVar 1) mNil)) (gNm 3) (mFor (iAs rngOf1 (mCons (mVar 1) mNil)) (gNm 4) (mIf (mOrT (mB (mOp eqV2 (mVar 3) (mVar 4))) (mB (mOp leV (mCall 3 d_for_one (mCons (mUn (fldV "rows") (mVar 0)) (mCons (mVar 3) (mCons (mVar 4) mNil)))) (mCall 3 d_for_one (mCons (mUn (fldV "rows") (mVar 0)) (mCons (mVar 4) (mCons (mVar 3) mNil))))))) (mSetIx (mOp ixV (mVar 2) (mVar 3)) (mVar 4) (mC (.int 0))) mNext)))
      (mSeq (mFor (iAs rngOf1 (mCons (mVar 1) mNil)) (gNm 5) (mFor (iAs rngOf1 (mCons (mVar 1) mNil)) (gNm 3) (mFor (iAs rngOf1 (mCons (mVar 1) mNil)) (gNm 4) (mSetIx (mOp ixV (mVar 2) (mVar 3)) (mVar 4) (mBi (two maxV2) (mCons (mOp ixV (mOp ixV (mVar 2) (mVar 3)) (mVar 4)) (mCons (mBi (two minV2) (mCons (mOp ixV (mOp ixV (mVar 2) (mVar 3)) (mVar 5)) (mCons (mOp ixV (mOp ixV (mVar 2) (mVar 5)) (mVar 4)) mNil))) mNil)))))))
      (mSeq (mSet 6 (mLc (iAs rngOf1 (mCons (mVar 1) mNil)) (gNm 3) [3] (mT (mBi (one allV1) (mCons (mLc (iAs rngOf1 (mCons (mVar 1) mNil)) (gNm 4) [4] mYes (mOp geV (mOp ixV (mOp ixV (mVar 2) (mVar 3)) (mVar 4)) (mOp ixV (mOp ixV (mVar 2) (mVar 4)) (mVar 3)))) mNil))) (mVar 3)))
      (mRet (mBi (one tupV1) (mCons (mVar 6) mNil))))))))
def d_widest : FM := runD 7 b_widest
def b_L_draw : SM :=
      (mSeq (mIf (mAndT (mB (mOp eqV2 (mOp ixV (mVar 0) (mC (.int 2))) (mC (.int 0)))) (mB (mOp ltV (mOp ixV (mVar 0) (mC (.int 1))) (mBi (one lenV1) (mCons (mOp ixV (mVar 0) (mC (.int 0))) mNil))))) (mSeq (mSet 2 (mOp ixV (mOp ixV (mVar 0) (mC (.int 0))) (mOp ixV (mVar 0) (mC (.int 1)))))
      (mSeq (mSetIx (mVar 0) (mC (.int 1)) (mOp addV (mOp ixV (mVar 0) (mC (.int 1))) (mC (.int 1))))
      (mSeq (mSetIx (mVar 0) (mC (.int 3)) (mOp modV (mBi (one intV1) (mCons (mOp addV (mOp addV (mOp mulV (mOp ixV (mVar 0) (mC (.int 3))) (mC (.int 69621))) (mVar 2)) (mC (.int 257))) mNil)) (mC (.int 2147483629))))
      (mIf (mB (mOp geV (mVar 2) (mOp powV (mC (.int 10)) (mC (.int 18))))) (mSetIx (mVar 0) (mC (.int 2)) (mVar 2)) mNext)))) mNext)
      (mSeq (mIf (mB (mOp gtV (mOp ixV (mVar 0) (mC (.int 2))) (mC (.int 0)))) (mSeq (mSet 3 (mOp modV (mBi (one intV1) (mCons (mOp ixV (mVar 0) (mC (.int 2))) mNil)) (mVar 1)))
      (mSeq (mSetIx (mVar 0) (mC (.int 2)) (mOp fdivV (mOp ixV (mVar 0) (mC (.int 2))) (mVar 1)))
      (mRet (mVar 3)))) mNext)
      (mSeq (mSetIx (mVar 0) (mC (.int 4)) (mOp addV (mOp ixV (mVar 0) (mC (.int 4))) (mC (.int 1))))
      (mSeq (mSet 4 (mOp modV (mBi (one intV1) (mCons (mOp mulV (mBi (one intV1) (mCons (mOp addV (mOp ixV (mVar 0) (mC (.int 3))) (mOp mulV (mC (.int 7919)) (mOp ixV (mVar 0) (mC (.int 4))))) mNil)) (mC (.int 48271))) mNil)) (mC (.int 2147483647))))
      (mSeq (mSet 4 (mOp modV (mBi (one intV1) (mCons (mOp mulV (mVar 4) (mOp addV (mOp fdivV (mVar 4) (mC (.int 1009))) (mC (.int 69621)))) mNil)) (mC (.int 2147483647))))
      (mSeq (mSet 4 (mOp modV (mBi (one intV1) (mCons (mOp mulV (mVar 4) (mOp addV (mOp fdivV (mVar 4) (mC (.int 2003))) (mC (.int 40692)))) mNil)) (mC (.int 2147483399))))
      (mRet (mOp modV (mBi (one intV1) (mCons (mOp fdivV (mVar 4) (mC (.int 16))) mNil)) (mVar 1)))))))))
def d_L_draw : FM := runD 5 b_L_draw
def b_L_mixed : SM :=
      (mSeq (mPar [2, 3] (mCons (mBi lstN1 (mCons (mVar 1) mNil)) (mCons (mLstN mNil) mNil)))
      (mSeq (whLoop (mB (mOp gtV (mBi (one lenV1) (mCons (mVar 2) mNil)) (mC (.int 0)))) (mDrop (mMt appendT (mVar 3) (mCons (mMt popIT (mVar 2) (mCons (mCall 2 d_L_draw (mCons (mVar 0) (mCons (mBi (one lenV1) (mCons (mVar 2) mNil)) mNil))) mNil)) mNil))) 100000)
      (mRet (mVar 3))))
def d_L_mixed : FM := runD 4 b_L_mixed
def b_L_some : SM :=
      (mRet (mOp ixV (mVar 1) (mCall 2 d_L_draw (mCons (mVar 0) (mCons (mBi (one lenV1) (mCons (mVar 1) mNil)) mNil)))))
def d_L_some : FM := runD 2 b_L_some
def b_L_ballots : SM :=
      (mSeq (mSet 2 (mOp addV (mC (.int 1)) (mCall 2 d_L_draw (mCons (mVar 0) (mCons (mVar 1) mNil)))))
      (mSeq (mPar [3, 4] (mCons (mCall 2 d_L_draw (mCons (mVar 0) (mCons (mC (.int 4)) mNil))) (mCons (mLstN mNil) mNil)))
      (mSeq (mFor (iAs rngOf1 (mCons (mOp addV (mC (.int 1)) (mCall 2 d_L_draw (mCons (mVar 0) (mCons (mC (.int 6)) mNil)))) mNil)) (gNm 5) (mSeq (mSet 6 (mBi (one tupV1) (mCons (mCall 2 d_L_mixed (mCons (mVar 0) (mCons (mLsRg1 (mVar 2)) mNil))) mNil)))
      (mSeq (mIf (mAndT (mB (mOp eqV2 (mVar 3) (mC (.int 0)))) (mB (mOp gtV (mBi (one lenV1) (mCons (mVar 4) mNil)) (mC (.int 0))))) (mSet 6 (mIfE (mB (mOp eqV2 (mCall 2 d_L_draw (mCons (mVar 0) (mCons (mC (.int 2)) mNil))) (mC (.int 0)))) (mOp addV (mSl (mOp ixV (mOp ixV (mVar 4) (mC (.int 0))) (mC (.int 1))) (mPart (mC (.int 1))) mNoP) (mSl (mOp ixV (mOp ixV (mVar 4) (mC (.int 0))) (mC (.int 1))) mNoP (mPart (mC (.int 1))))) (mUn revV (mOp ixV (mOp ixV (mVar 4) (mUn negV (mC (.int 1)))) (mC (.int 1)))))) mNext)
      (mDrop (mMt appendT (mVar 4) (mCons (mTup (mCons (mOp addV (mC (.int 1)) (mCall 2 d_L_draw (mCons (mVar 0) (mCons (mCall 2 d_L_some (mCons (mVar 0) (mCons (mLst (mCons (mC (.int 1)) (mCons (mC (.int 4)) (mCons (mC (.int 99)) mNil)))) mNil))) mNil)))) (mCons (mVar 6) mNil))) mNil))))))
      (mRet (mTup (mCons (mVar 2) (mCons (mBi (one tupV1) (mCons (mVar 4) mNil)) mNil)))))))
def d_L_ballots : FM := runD 7 b_L_ballots
def b_margin_rows : SM :=
      (mSeq (mSet 2 (mLstN mNil))
      (mSeq (mFor (iAs rngOf1 (mCons (mVar 1) mNil)) (gNm 3) (mDrop (mMt appendT (mVar 2) (mCons (mBi (one tupV1) (mCons (mLc (iAs rngOf1 (mCons (mVar 1) mNil)) (gNm 4) [4] mYes (mOp subV (mCall 3 d_for_one (mCons (mVar 0) (mCons (mVar 3) (mCons (mVar 4) mNil)))) (mCall 3 d_for_one (mCons (mVar 0) (mCons (mVar 4) (mCons (mVar 3) mNil)))))) mNil)) mNil))))
      (mRet (mBi (one tupV1) (mCons (mVar 2) mNil)))))
def d_margin_rows : FM := runD 5 b_margin_rows
def b_beater_of : SM :=
      (mSeq (mSet 2 (mCall 2 d_margin_rows (mCons (mVar 0) (mCons (mVar 1) mNil))))
      (mSeq (mSet 3 (mLc (iAs rngOf1 (mCons (mVar 1) mNil)) (gNm 4) [4] (mT (mBi (one allV1) (mCons (mLc (iAs rngOf1 (mCons (mVar 1) mNil)) (gNm 5) [5] (mB (mOp neV2 (mVar 5) (mVar 4))) (mOp gtV (mOp ixV (mOp ixV (mVar 2) (mVar 4)) (mVar 5)) (mC (.int 0)))) mNil))) (mVar 4)))
      (mRet (mIfE (mB (mOp gtV (mBi (one lenV1) (mCons (mVar 3) mNil)) (mC (.int 0)))) (mOp ixV (mVar 3) (mC (.int 0))) (mC .non)))))
def d_beater_of : FM := runD 6 b_beater_of
def b_beater : SM :=
      (mRet (mCall 2 d_beater_of (mCons (mUn (fldV "rows") (mVar 0)) (mCons (mUn (fldV "many") (mVar 0)) mNil))))
def d_beater : FM := runD 1 b_beater
def b_L_called : SM :=
      (mSeq (mSet 3 (mCall 2 d_L_mixed (mCons (mVar 0) (mCons (mLsRg1 (mVar 1)) mNil))))
      (mRet (mTup (mCons (mVar 3) (mCons (mBi (one tupV1) (mCons (mLc (iSeq (mVar 2)) (gTp [(gNm 4), (gNm 5)]) [4, 5] mYes (mTup (mCons (mVar 4) (mCons (mBi (one tupV1) (mCons (mLc (iSeq (mVar 5)) (gNm 6) [6] mYes (mOp ixV (mVar 3) (mVar 6))) mNil)) mNil)))) mNil)) mNil)))))
def d_L_called : FM := runD 7 b_L_called
def b_L_is (self : FM) : SM :=
      (mSeq (mIf (mOrT (mT (mIsi "tuple" (mVar 1))) (mT (mIsi "list" (mVar 1)))) (mSeq (mIf (mOrT (mB (mOp neV2 (mIsi "tuple" (mVar 1)) (mIsi "tuple" (mVar 0)))) (mB (mOp neV2 (mIsi "list" (mVar 1)) (mIsi "list" (mVar 0))))) (mRet (mC (.bl false))) mNext)
      (mRet (mAndV (mOp eqV2 (mBi (one lenV1) (mCons (mVar 0) mNil)) (mBi (one lenV1) (mCons (mVar 1) mNil))) (mBi (one allV1) (mCons (mLc (iAs zipOf (mCons (mVar 0) (mCons (mVar 1) mNil))) (gTp [(gNm 2), (gNm 3)]) [2, 3] mYes (mCall 2 self (mCons (mVar 2) (mCons (mVar 3) mNil)))) mNil))))) mNext)
      (mSeq (mIf (mOrT (mB (mUn (isN false) (mVar 1))) (mB (mUn (isN false) (mVar 0)))) (mRet (mAndV (mUn (isN false) (mVar 1)) (mUn (isN false) (mVar 0)))) mNext)
      (mSeq (mIf (mOrT (mT (mIsi "bool" (mVar 1))) (mT (mIsi "bool" (mVar 0)))) (mRet (mAndV (mIsi "bool" (mVar 1)) (mAndV (mIsi "bool" (mVar 0)) (mOp eqV2 (mVar 0) (mVar 1))))) mNext)
      (mSeq (mIf (mOrT (mT (mIsi "str" (mVar 1))) (mT (mIsi "str" (mVar 0)))) (mRet (mAndV (mIsi "str" (mVar 1)) (mAndV (mIsi "str" (mVar 0)) (mOp eqV2 (mVar 0) (mVar 1))))) mNext)
      (mRet (mAndV (mIsi "int" (mVar 0)) (mOp eqV2 (mVar 0) (mVar 1))))))))
def f_L_is : Nat := 64
def d_L_is : Nat → FM
  | 0 => fun _ _ => none
  | n + 1 => runD 4 (b_L_is (d_L_is n))
def b_L_over : SM :=
      (mRet (mBi (one sumV1) (mCons (mLc (iSeq (mVar 0)) (gTp [(gNm 3), (gNm 4)]) [3, 4] (mB (mOp ltV (mIxT (mVar 4) (mCons (mVar 1) mNil)) (mIxT (mVar 4) (mCons (mVar 2) mNil)))) (mVar 3)) mNil)))
def d_L_over : FM := runD 5 b_L_over
def b_L_margins : SM :=
      (mSeq (mSet 2 (mLstN mNil))
      (mSeq (mFor (iAs rngOf1 (mCons (mVar 0) mNil)) (gNm 3) (mDrop (mMt appendT (mVar 2) (mCons (mBi (one tupV1) (mCons (mLc (iAs rngOf1 (mCons (mVar 0) mNil)) (gNm 4) [4] mYes (mOp subV (mCall 3 d_L_over (mCons (mVar 1) (mCons (mVar 3) (mCons (mVar 4) mNil)))) (mCall 3 d_L_over (mCons (mVar 1) (mCons (mVar 4) (mCons (mVar 3) mNil)))))) mNil)) mNil))))
      (mRet (mBi (one tupV1) (mCons (mVar 2) mNil)))))
def d_L_margins : FM := runD 5 b_L_margins
def b_L_width : SM :=
      (mSeq (mPar [4, 5, 6] (mCons (mCall 2 d_L_margins (mCons (mVar 0) (mCons (mVar 1) mNil))) (mCons (mC (.int 0)) (mCons (mLstN (mCons (mTup (mCons (mTup (mCons (mVar 2) mNil)) (mCons (mOp powV (mC (.int 10)) (mC (.int 6))) mNil))) mNil)) mNil))))
      (mSeq (whLoop (mB (mOp gtV (mBi (one lenV1) (mCons (mVar 6) mNil)) (mC (.int 0)))) (mSeq (mUnp (gTp [(gNm 7), (gNm 8)]) (mMt popT (mVar 6) mNil))
      (mFor (iSeq (mLc (iAs rngOf1 (mCons (mVar 0) mNil)) (gNm 9) [9] (mAndT (mB (mOp ninV2 (mVar 9) (mVar 7))) (mB (mOp gtV (mOp ixV (mOp ixV (mVar 4) (mOp ixV (mVar 7) (mUn negV (mC (.int 1))))) (mVar 9)) (mC (.int 0))))) (mVar 9))) (gNm 9) (mSeq (mSet 10 (mBi (two minV2) (mCons (mVar 8) (mCons (mCall 3 d_L_over (mCons (mVar 1) (mCons (mOp ixV (mVar 7) (mUn negV (mC (.int 1)))) (mCons (mVar 9) mNil)))) mNil))))
      (mIf (mB (mOp eqV2 (mVar 9) (mVar 3))) (mSet 5 (mBi (two maxV2) (mCons (mVar 5) (mCons (mVar 10) mNil)))) (mDrop (mMt appendT (mVar 6) (mCons (mTup (mCons (mOp addV (mVar 7) (mTup (mCons (mVar 9) mNil))) (mCons (mVar 10) mNil))) mNil))))))) 100000)
      (mRet (mVar 5))))
def d_L_width : FM := runD 11 b_L_width
def b_margins : SM :=
      (mRet (mCall 2 d_margin_rows (mCons (mUn (fldV "rows") (mVar 0)) (mCons (mUn (fldV "many") (mVar 0)) mNil))))
def d_margins : FM := runD 1 b_margins
def b_closed_from : SM :=
      (mSeq (mPar [2, 3] (mCons (mDisp [((mVar 1), (mC (.bl true)))]) (mCons (mLstN (mCons (mVar 1) mNil)) mNil)))
      (mSeq (whLoop (mB (mOp gtV (mBi (one lenV1) (mCons (mVar 3) mNil)) (mC (.int 0)))) (mSeq (mSet 4 (mMt popT (mVar 3) mNil))
      (mFor (iAs rngOf1 (mCons (mBi (one lenV1) (mCons (mVar 0) mNil)) mNil)) (gNm 5) (mIf (mAndT (mB (mOp ninV2 (mVar 5) (mVar 2))) (mB (mOp leV (mOp ixV (mOp ixV (mVar 0) (mVar 4)) (mVar 5)) (mC (.int 0))))) (mSeq (mSetIx (mVar 2) (mVar 5) (mC (.bl true)))
      (mDrop (mMt appendT (mVar 3) (mCons (mVar 5) mNil)))) mNext))) 100000)
      (mRet (mBi (one tupV1) (mCons (mBi (one sortDV) (mCons (mVar 2) mNil)) mNil)))))
def d_closed_from : FM := runD 6 b_closed_from
def b_smith : SM :=
      (mSeq (mSet 1 (mCall 1 d_margins (mCons (mVar 0) mNil)))
      (mSeq (mSet 2 (mLc (iAs rngOf1 (mCons (mUn (fldV "many") (mVar 0)) mNil)) (gNm 3) [3] mYes (mCall 2 d_closed_from (mCons (mVar 1) (mCons (mVar 3) mNil)))))
      (mRet (mOp ixV (mLc (iSeq (mVar 2)) (gNm 4) [4] (mB (mOp eqV2 (mBi (one lenV1) (mCons (mVar 4) mNil)) (mBi (one minV1) (mCons (mLc (iSeq (mVar 2)) (gNm 5) [5] mYes (mBi (one lenV1) (mCons (mVar 5) mNil))) mNil)))) (mVar 4)) (mC (.int 0))))))
def d_smith : FM := runD 6 b_smith
def b_L_is_right : SM :=
      (mSeq (mUnp (gTp [(gNm 1), (gNm 2)]) (mCall 2 d_L_ballots (mCons (mVar 0) (mCons (mC (.int 5)) mNil))))
      (mSeq (mPar [3, 4] (mCons (mMake 0 3 d_Ballots___init__ (mCons (mVar 1) (mCons (mVar 2) mNil))) (mCons (mLstN mNil) mNil)))
      (mSeq (mFor (iAs rngOf1 (mCons (mVar 1) mNil)) (gNm 5) (mSeq (mSet 6 (mLc (iAs rngOf1 (mCons (mVar 1) mNil)) (gNm 12) [12] (mB (mOp neV2 (mVar 12) (mVar 5))) (mVar 12)))
      (mIf (mT (mBi (one allV1) (mCons (mLc (iSeq (mVar 6)) (gNm 12) [12] mYes (mOp geV (mCall 4 d_L_width (mCons (mVar 1) (mCons (mVar 2) (mCons (mVar 5) (mCons (mVar 12) mNil))))) (mCall 4 d_L_width (mCons (mVar 1) (mCons (mVar 2) (mCons (mVar 12) (mCons (mVar 5) mNil))))))) mNil))) (mDrop (mMt appendT (mVar 4) (mCons (mVar 5) mNil))) mNext)))
      (mSeq (mSet 7 (mCall 1 d_widest (mCons (mVar 3) mNil)))
      (mSeq (mIf (mOrT (mNotT (mT (mCall 2 (d_L_is f_L_is) (mCons (mVar 7) (mCons (mBi (one tupV1) (mCons (mVar 4) mNil)) mNil))))) (mB (mOp eqV2 (mBi (one lenV1) (mCons (mVar 7) mNil)) (mC (.int 0))))) (mRet (mC (.bl false))) mNext)
      (mSeq (mSet 8 (mCall 1 d_beater (mCons (mVar 3) mNil)))
      (mSeq (mIf (mOrT (mAndT (mB (mUn (isN true) (mVar 8))) (mB (mOp neV2 (mVar 7) (mTup (mCons (mVar 8) mNil))))) (mNotT (mT (mBi (one allV1) (mCons (mLc (iSeq (mVar 7)) (gNm 5) [5] mYes (mOp inV2 (mVar 5) (mCall 1 d_smith (mCons (mVar 3) mNil)))) mNil))))) (mRet (mC (.bl false))) mNext)
      (mSeq (mUnp (gTp [(gNm 9), (gNm 10)]) (mCall 3 d_L_called (mCons (mVar 0) (mCons (mVar 1) (mCons (mVar 2) mNil)))))
      (mSeq (mIf (mB (mOp neV2 (mCall 1 d_widest (mCons (mMake 0 3 d_Ballots___init__ (mCons (mVar 1) (mCons (mVar 10) mNil))) mNil)) (mBi (one tupV1) (mCons (mBi (one sortV1) (mCons (mLc (iSeq (mVar 7)) (gNm 5) [5] mYes (mOp ixV (mVar 9) (mVar 5))) mNil)) mNil)))) (mRet (mC (.bl false))) mNext)
      (mSeq (mIf (mB (mOp eqV2 (mVar 1) (mC (.int 5)))) (mRet (mC (.bl true))) mNext)
      (mSeq (mSet 11 (mMake 0 3 d_Ballots___init__ (mCons (mOp addV (mVar 1) (mC (.int 1))) (mCons (mBi (one tupV1) (mCons (mLc (iSeq (mVar 2)) (gTp [(gNm 13), (gNm 14)]) [13, 14] mYes (mTup (mCons (mVar 13) (mCons (mOp addV (mVar 14) (mTup (mCons (mVar 1) mNil))) mNil)))) mNil)) mNil))))
      (mRet (mOp eqV2 (mCall 1 d_widest (mCons (mVar 11) mNil)) (mVar 7))))))))))))))
def d_L_is_right : FM := runD 15 b_L_is_right
def b_law : SM :=
      (mSeq (mSet 1 (mCallN 1 d_L_hand (mCons (mVar 0) mNil)))
      (mSeq (mSet 2 (mMake 0 3 d_Ballots___init__ (mCons (mC (.int 3)) (mCons (mTup (mCons (mTup (mCons (mC (.int 4)) (mCons (mTup (mCons (mC (.int 0)) (mCons (mC (.int 1)) (mCons (mC (.int 2)) mNil)))) mNil))) (mCons (mTup (mCons (mC (.int 3)) (mCons (mTup (mCons (mC (.int 1)) (mCons (mC (.int 2)) (mCons (mC (.int 0)) mNil)))) mNil))) (mCons (mTup (mCons (mC (.int 2)) (mCons (mTup (mCons (mC (.int 2)) (mCons (mC (.int 0)) (mCons (mC (.int 1)) mNil)))) mNil))) mNil)))) mNil))))
      (mSeq (mIf (mOrT (mB (mOp neV2 (mCall 1 d_widest (mCons (mVar 2) mNil)) (mTup (mCons (mC (.int 0)) mNil)))) (mB (mOp neV2 (mCall 1 d_widest (mCons (mMake 0 3 d_Ballots___init__ (mCons (mC (.int 2)) (mCons (mTup (mCons (mTup (mCons (mC (.int 1)) (mCons (mTup (mCons (mC (.int 0)) (mCons (mC (.int 1)) mNil))) mNil))) (mCons (mTup (mCons (mC (.int 1)) (mCons (mTup (mCons (mC (.int 1)) (mCons (mC (.int 0)) mNil))) mNil))) mNil))) mNil))) mNil)) (mTup (mCons (mC (.int 0)) (mCons (mC (.int 1)) mNil)))))) (mRet (mC (.bl false))) mNext)
      (mRet (mBi (one allV1) (mCons (mLc (iAs rngOf1 (mCons (mC (.int 4)) mNil)) (gNm 3) [3] mYes (mCall 1 d_L_is_right (mCons (mVar 1) mNil))) mNil))))))
def d_law : FM := runD 4 b_law
end K53

set_option Elab.async false
set_option linter.all false
set_option maxRecDepth 100000
set_option maxHeartbeats 0
namespace K53
open PySem PySem.Spec PyProof.Rows L2 Mini

def topS (i : Nat) : Stmt := PySem.Challenge.pw_playershouse_k53_whole_winners_by_widest.main.body.getD i (.Pass ⟨0, 0, 0, 0⟩)
abbrev s_L_hand : Stmt := topS 23
abbrev N_L_hand : List Str := ["script", "cells", "cell"]
theorem sc_L_hand : FnScope N_L_hand ["script"] (defScope s_L_hand) := ⟨rfl, rfl, rfl, by decide +kernel, rfl, by decide +kernel, by decide +kernel⟩
abbrev s_is_integer : Stmt := topS 1
abbrev N_is_integer : List Str := ["thing"]
theorem sc_is_integer : FnScope N_is_integer ["thing"] (defScope s_is_integer) := ⟨rfl, rfl, rfl, by decide +kernel, rfl, by decide +kernel, by decide +kernel⟩
abbrev s_is_within : Stmt := topS 2
abbrev N_is_within : List Str := ["thing", "least", "most"]
theorem sc_is_within : FnScope N_is_within ["thing", "least", "most"] (defScope s_is_within) := ⟨rfl, rfl, rfl, by decide +kernel, rfl, by decide +kernel, by decide +kernel⟩
abbrev s_is_sized : Stmt := topS 4
abbrev N_is_sized : List Str := ["thing", "least", "most"]
theorem sc_is_sized : FnScope N_is_sized ["thing", "least", "most"] (defScope s_is_sized) := ⟨rfl, rfl, rfl, by decide +kernel, rfl, by decide +kernel, by decide +kernel⟩
abbrev s_is_tuple : Stmt := topS 3
abbrev N_is_tuple : List Str := ["thing", "size"]
theorem sc_is_tuple : FnScope N_is_tuple ["thing", "size"] (defScope s_is_tuple) := ⟨rfl, rfl, rfl, by decide +kernel, rfl, by decide +kernel, by decide +kernel⟩
abbrev s_is_order : Stmt := topS 5
abbrev N_is_order : List Str := ["thing", "many", "one"]
theorem sc_is_order : FnScope N_is_order ["thing", "many"] (defScope s_is_order) := ⟨rfl, rfl, rfl, by decide +kernel, rfl, by decide +kernel, by decide +kernel⟩
abbrev s_Ballots___init__ : Stmt := inClass (topS 13) 0
abbrev N_Ballots___init__ : List Str := ["self", "many", "rows", "row"]
theorem sc_Ballots___init__ : FnScope N_Ballots___init__ ["self", "many", "rows"] (defScope s_Ballots___init__) := ⟨rfl, rfl, rfl, by decide +kernel, rfl, by decide +kernel, by decide +kernel⟩
abbrev s_for_one : Stmt := topS 14
abbrev N_for_one : List Str := ["rows", "one", "other", "times", "order"]
theorem sc_for_one : FnScope N_for_one ["rows", "one", "other"] (defScope s_for_one) := ⟨rfl, rfl, rfl, by decide +kernel, rfl, by decide +kernel, by decide +kernel⟩
abbrev s_widest : Stmt := topS 21
abbrev N_widest : List Str := ["ballots", "many", "wide", "one", "other", "middle", "found"]
theorem sc_widest : FnScope N_widest ["ballots"] (defScope s_widest) := ⟨rfl, rfl, rfl, by decide +kernel, rfl, by decide +kernel, by decide +kernel⟩
abbrev s_L_draw : Stmt := topS 24
abbrev N_L_draw : List Str := ["hand", "limit", "cell", "digit", "number"]
theorem sc_L_draw : FnScope N_L_draw ["hand", "limit"] (defScope s_L_draw) := ⟨rfl, rfl, rfl, by decide +kernel, rfl, by decide +kernel, by decide +kernel⟩
abbrev s_L_mixed : Stmt := topS 27
abbrev N_L_mixed : List Str := ["hand", "things", "remain", "found"]
theorem sc_L_mixed : FnScope N_L_mixed ["hand", "things"] (defScope s_L_mixed) := ⟨rfl, rfl, rfl, by decide +kernel, rfl, by decide +kernel, by decide +kernel⟩
abbrev s_L_some : Stmt := topS 25
abbrev N_L_some : List Str := ["hand", "items"]
theorem sc_L_some : FnScope N_L_some ["hand", "items"] (defScope s_L_some) := ⟨rfl, rfl, rfl, by decide +kernel, rfl, by decide +kernel, by decide +kernel⟩
abbrev s_L_ballots : Stmt := topS 28
abbrev N_L_ballots : List Str := ["hand", "most", "many", "kind", "rows", "turn", "order"]
theorem sc_L_ballots : FnScope N_L_ballots ["hand", "most"] (defScope s_L_ballots) := ⟨rfl, rfl, rfl, by decide +kernel, rfl, by decide +kernel, by decide +kernel⟩
abbrev s_margin_rows : Stmt := topS 15
abbrev N_margin_rows : List Str := ["rows", "many", "found", "one", "other"]
theorem sc_margin_rows : FnScope N_margin_rows ["rows", "many"] (defScope s_margin_rows) := ⟨rfl, rfl, rfl, by decide +kernel, rfl, by decide +kernel, by decide +kernel⟩
abbrev s_beater_of : Stmt := topS 17
abbrev N_beater_of : List Str := ["rows", "many", "table", "found", "one", "other"]
theorem sc_beater_of : FnScope N_beater_of ["rows", "many"] (defScope s_beater_of) := ⟨rfl, rfl, rfl, by decide +kernel, rfl, by decide +kernel, by decide +kernel⟩
abbrev s_beater : Stmt := topS 18
abbrev N_beater : List Str := ["ballots"]
theorem sc_beater : FnScope N_beater ["ballots"] (defScope s_beater) := ⟨rfl, rfl, rfl, by decide +kernel, rfl, by decide +kernel, by decide +kernel⟩
abbrev s_L_called : Stmt := topS 31
abbrev N_L_called : List Str := ["hand", "many", "rows", "names", "times", "order", "one"]
theorem sc_L_called : FnScope N_L_called ["hand", "many", "rows"] (defScope s_L_called) := ⟨rfl, rfl, rfl, by decide +kernel, rfl, by decide +kernel, by decide +kernel⟩
abbrev s_L_is : Stmt := topS 26
abbrev N_L_is : List Str := ["thing", "due", "one", "other"]
theorem sc_L_is : FnScope N_L_is ["thing", "due"] (defScope s_L_is) := ⟨rfl, rfl, rfl, by decide +kernel, rfl, by decide +kernel, by decide +kernel⟩
abbrev s_L_over : Stmt := topS 29
abbrev N_L_over : List Str := ["rows", "one", "other", "many", "order"]
theorem sc_L_over : FnScope N_L_over ["rows", "one", "other"] (defScope s_L_over) := ⟨rfl, rfl, rfl, by decide +kernel, rfl, by decide +kernel, by decide +kernel⟩
abbrev s_L_margins : Stmt := topS 30
abbrev N_L_margins : List Str := ["many", "rows", "found", "one", "other"]
theorem sc_L_margins : FnScope N_L_margins ["many", "rows"] (defScope s_L_margins) := ⟨rfl, rfl, rfl, by decide +kernel, rfl, by decide +kernel, by decide +kernel⟩
abbrev s_L_width : Stmt := topS 32
abbrev N_L_width : List Str := ["many", "rows", "begin", "end", "table", "best", "waiting", "path", "wide", "one", "here"]
theorem sc_L_width : FnScope N_L_width ["many", "rows", "begin", "end"] (defScope s_L_width) := ⟨rfl, rfl, rfl, by decide +kernel, rfl, by decide +kernel, by decide +kernel⟩
abbrev s_margins : Stmt := topS 16
abbrev N_margins : List Str := ["ballots"]
theorem sc_margins : FnScope N_margins ["ballots"] (defScope s_margins) := ⟨rfl, rfl, rfl, by decide +kernel, rfl, by decide +kernel, by decide +kernel⟩
abbrev s_closed_from : Stmt := topS 19
abbrev N_closed_from : List Str := ["table", "start", "found", "waiting", "one", "other"]
theorem sc_closed_from : FnScope N_closed_from ["table", "start"] (defScope s_closed_from) := ⟨rfl, rfl, rfl, by decide +kernel, rfl, by decide +kernel, by decide +kernel⟩
abbrev s_smith : Stmt := topS 20
abbrev N_smith : List Str := ["ballots", "table", "lots", "start", "lot", "other"]
theorem sc_smith : FnScope N_smith ["ballots"] (defScope s_smith) := ⟨rfl, rfl, rfl, by decide +kernel, rfl, by decide +kernel, by decide +kernel⟩
abbrev s_L_is_right : Stmt := topS 33
abbrev N_L_is_right : List Str := ["hand", "many", "rows", "book", "due", "one", "others", "told", "top", "names", "called", "more", "other", "times", "order"]
theorem sc_L_is_right : FnScope N_L_is_right ["hand"] (defScope s_L_is_right) := ⟨rfl, rfl, rfl, by decide +kernel, rfl, by decide +kernel, by decide +kernel⟩
abbrev s_law : Stmt := topS 34
abbrev N_law : List Str := ["script", "hand", "ring", "turn"]
theorem sc_law : FnScope N_law ["script"] (defScope s_law) := ⟨rfl, rfl, rfl, by decide +kernel, rfl, by decide +kernel, by decide +kernel⟩
structure Tx (K : PySem.W.Frag) (mg : Str → Option Value) (G : Sit) : Prop where
  hK : G.K = K
  cl : ∀ c C, G.cls c = some C → Cls K C
  n_many : ∀ c C, G.cls c = some C → NoAttr K C "many"
  n_rows : ∀ c C, G.cls c = some C → NoAttr K C "rows"
  b_abs : mg "abs" = none
  b_all : mg "all" = none
  b_bool : mg "bool" = none
  b_int : mg "int" = none
  b_isinstance : mg "isinstance" = none
  b_len : mg "len" = none
  b_list : mg "list" = none
  b_max : mg "max" = none
  b_min : mg "min" = none
  b_range : mg "range" = none
  b_set : mg "set" = none
  b_sorted : mg "sorted" = none
  b_str : mg "str" = none
  b_sum : mg "sum" = none
  b_tuple : mg "tuple" = none
  b_zip : mg "zip" = none
  c_MOST_ROWS : ∃ t, mg "MOST_ROWS" = some (.int 12 t)
  c_MOST_THINGS : ∃ t, mg "MOST_THINGS" = some (.int 5 t)
  c_MOST_TIMES : ∃ t, mg "MOST_TIMES" = some (.int 99 t)
section
variable {P : Program} {w0 : World} {K : PySem.W.Frag} {mg : Str → Option Value} {base : Heap} {G : Sit}
theorem ok_L_hand (T : Tx K mg G) (F : Fn K mg "_law_hand" "_law_hand" s_L_hand ["script"]) : Has P w0 K mg base G 1 "_law_hand" 1 d_L_hand := by
  obtain ⟨f, fd, F, hm, hb⟩ := F
  have hN := sc_L_hand.nd
  exact ⟨f, fd, _, fn_run (k := 0) F sc_L_hand (ms := b_L_hand) fun cdv A outer s H E hr =>
      (sss_cons (ss_setLc 1 (own := [("cell", 2)]) rfl hN (si_seq (se_sl T.hK (se_var 0) so_none (so_some se_int))) (by decide +kernel : blkC N_L_hand (defScope s_L_hand) _ [("cell", 2)] = true) (fun _ _ _ _ _ => (sg_name 2 hN)) (fun _ _ _ _ _ => sts_nil) (fun _ _ _ _ _ => (se_bi bi_abs T.b_abs (by decide +kernel) (sa_cons (se_bt bt_int T.b_int (by decide +kernel) (sa_cons (se_var 2) sa_nil)) sa_nil))))
      (sss_one (ss_ret (se_lstN (sa_cons (se_var 1) (sa_cons se_int (sa_cons se_int (sa_cons (se_op op_addV se_int (se_bi bi_len T.b_len (by decide +kernel) (sa_cons (se_var 1) sa_nil))) (sa_cons se_int sa_nil))))))))), hm, F.kp, hb⟩
theorem ok_is_integer (T : Tx K mg G) (F : Fn K mg "is_integer" "is_integer" s_is_integer ["thing"]) : Has P w0 K mg base G 1 "is_integer" 1 d_is_integer := by
  obtain ⟨f, fd, F, hm, hb⟩ := F
  have hN := sc_is_integer.nd
  exact ⟨f, fd, _, fn_run (k := 0) F sc_is_integer (ms := b_is_integer) fun cdv A outer s H E hr =>
      (sss_one (ss_ret (se_and (se_isi (T := "int") (by decide +kernel) T.b_isinstance T.b_int (by decide +kernel) (se_var 0)) (se_one (se_not (se_isi (T := "bool") (by decide +kernel) T.b_isinstance T.b_bool (by decide +kernel) (se_var 0))))))), hm, F.kp, hb⟩
theorem ok_is_within (T : Tx K mg G) (F : Fn K mg "is_within" "is_within" s_is_within ["thing", "least", "most"]) (h_is_integer : Has P w0 K mg base G 1 "is_integer" 1 d_is_integer) : Has P w0 K mg base G 2 "is_within" 3 d_is_within := by
  obtain ⟨f, fd, F, hm, hb⟩ := F
  have hN := sc_is_within.nd
  exact ⟨f, fd, _, fn_run (k := 1) F sc_is_within (ms := b_is_within) fun cdv A outer s H E hr =>
      (sss_one (ss_ret (se_and (se_callH h_is_integer (hr.mono (by omega)) (sa_cons (se_var 0) sa_nil)) (se_one (se_chain op_leV op_leV (se_var 1) (se_var 0) (se_var 2)))))), hm, F.kp, hb⟩
theorem ok_is_sized (T : Tx K mg G) (F : Fn K mg "is_sized" "is_sized" s_is_sized ["thing", "least", "most"]) : Has P w0 K mg base G 1 "is_sized" 3 d_is_sized := by
  obtain ⟨f, fd, F, hm, hb⟩ := F
  have hN := sc_is_sized.nd
  exact ⟨f, fd, _, fn_run (k := 0) F sc_is_sized (ms := b_is_sized) fun cdv A outer s H E hr =>
      (sss_one (ss_ret (se_and (se_isi (T := "tuple") (by decide +kernel) T.b_isinstance T.b_tuple (by decide +kernel) (se_var 0)) (se_one (se_chain op_leV op_leV (se_var 1) (se_bi bi_len T.b_len (by decide +kernel) (sa_cons (se_var 0) sa_nil)) (se_var 2)))))), hm, F.kp, hb⟩
theorem ok_is_tuple (T : Tx K mg G) (F : Fn K mg "is_tuple" "is_tuple" s_is_tuple ["thing", "size"]) : Has P w0 K mg base G 1 "is_tuple" 2 d_is_tuple := by
  obtain ⟨f, fd, F, hm, hb⟩ := F
  have hN := sc_is_tuple.nd
  exact ⟨f, fd, _, fn_run (k := 0) F sc_is_tuple (ms := b_is_tuple) fun cdv A outer s H E hr =>
      (sss_one (ss_ret (se_and (se_isi (T := "tuple") (by decide +kernel) T.b_isinstance T.b_tuple (by decide +kernel) (se_var 0)) (se_one (se_cmp (op_eqV2 hr.units) (se_bi bi_len T.b_len (by decide +kernel) (sa_cons (se_var 0) sa_nil)) (se_var 1)))))), hm, F.kp, hb⟩
theorem ok_is_order (T : Tx K mg G) (F : Fn K mg "is_order" "is_order" s_is_order ["thing", "many"]) (h_is_tuple : Has P w0 K mg base G 1 "is_tuple" 2 d_is_tuple) (h_is_within : Has P w0 K mg base G 2 "is_within" 3 d_is_within) : Has P w0 K mg base G 3 "is_order" 2 d_is_order := by
  obtain ⟨f, fd, F, hm, hb⟩ := F
  have hN := sc_is_order.nd
  exact ⟨f, fd, _, fn_run (k := 2) F sc_is_order (ms := b_is_order) fun cdv A outer s H E hr =>
      (sss_cons (ss_if (sw_or (sc_not (sc_tru (se_callH h_is_tuple (hr.mono (by omega)) (sa_cons (se_var 0) (sa_cons (se_var 1) sa_nil))))) (sw_or1 (sc_not (sc_tru (se_bi (bi_all rfl) T.b_all (by decide +kernel) (sa_cons (se_lc (own := [("one", 2)]) rfl hN (si_seq (se_var 0)) (by decide +kernel : blkC N_is_order (defScope s_is_order) _ [("one", 2)] = true) (fun _ _ _ _ _ => (sg_name 2 hN)) (fun _ _ _ _ _ => sts_nil) (fun _ _ _ _ _ => (se_callH h_is_within (hr.mono (by omega)) (sa_cons (se_var 2) (sa_cons se_int (sa_cons (se_op op_subV (se_var 1) se_int) sa_nil)))))) sa_nil)))))).c (sss_one (ss_ret se_bl)) sss_nil)
      (sss_one (ss_ret (se_cmp (op_eqV2 hr.units) (se_lenSet rfl T.b_len T.b_set (se_var 0)) (se_var 1))))), hm, F.kp, hb⟩
theorem ok_Ballots___init__ (T : Tx K mg G) (F : FnC K mg G "Ballots" 0 "__init__" "Ballots.__init__" s_Ballots___init__ ["self", "many", "rows"]) (h_is_order : Has P w0 K mg base G 3 "is_order" 2 d_is_order) (h_is_sized : Has P w0 K mg base G 1 "is_sized" 3 d_is_sized) (h_is_tuple : Has P w0 K mg base G 1 "is_tuple" 2 d_is_tuple) (h_is_within : Has P w0 K mg base G 2 "is_within" 3 d_is_within) : HasC P w0 K mg base G 4 "Ballots" 0 3 d_Ballots___init__ := by
  obtain ⟨C, f, fd, F, hm, M, hC, hb⟩ := F
  have hN := sc_Ballots___init__.nd
  exact ⟨C, f, fd, _, fn_run (k := 3) F sc_Ballots___init__ (ms := b_Ballots___init__) fun cdv A outer s H E hr =>
      (sss_cons (ss_if (sw_or (sc_not (sc_tru (se_callH h_is_within (hr.mono (by omega)) (sa_cons (se_var 1) (sa_cons se_int (sa_cons (se_gintH T.c_MOST_THINGS) sa_nil)))))) (sw_or1 (sc_not (sc_tru (se_callH h_is_sized (hr.mono (by omega)) (sa_cons (se_var 2) (sa_cons se_int (sa_cons (se_gintH T.c_MOST_ROWS) sa_nil)))))))).c (sss_one ss_never) sss_nil)
      (sss_cons (ss_if (sc_not (sc_tru (se_bi (bi_all rfl) T.b_all (by decide +kernel) (sa_cons (se_lc (own := [("row", 3)]) rfl hN (si_seq (se_var 2)) (by decide +kernel : blkC N_Ballots___init__ (defScope s_Ballots___init__) _ [("row", 3)] = true) (fun _ _ _ _ _ => (sg_name 3 hN)) (fun _ _ _ _ _ => sts_nil) (fun _ _ _ _ _ => (se_and (se_callH h_is_tuple (hr.mono (by omega)) (sa_cons (se_var 3) (sa_cons se_int sa_nil))) (se_and (se_callH h_is_within (hr.mono (by omega)) (sa_cons (se_ix (hu_of hr) (se_var 3) se_int) (sa_cons se_int (sa_cons (se_gintH T.c_MOST_TIMES) sa_nil)))) (se_one (se_callH h_is_order (hr.mono (by omega)) (sa_cons (se_ix (hu_of hr) (se_var 3) se_int) (sa_cons (se_var 1) sa_nil)))))))) sa_nil)))) (sss_one ss_never) sss_nil)
      (sss_cons (ss_setF T.cl T.n_many (se_var 0) (se_var 1))
      (sss_one (ss_setF T.cl T.n_rows (se_var 0) (se_var 2)))))), hm, M, hC, hb⟩
theorem ok_for_one (T : Tx K mg G) (F : Fn K mg "for_one" "for_one" s_for_one ["rows", "one", "other"]) : Has P w0 K mg base G 1 "for_one" 3 d_for_one := by
  obtain ⟨f, fd, F, hm, hb⟩ := F
  have hN := sc_for_one.nd
  exact ⟨f, fd, _, fn_run (k := 0) F sc_for_one (ms := b_for_one) fun cdv A outer s H E hr =>
      (sss_one (ss_ret (se_bi (bi_sum rfl) T.b_sum (by decide +kernel) (sa_cons (se_lc (own := [("times", 3), ("order", 4)]) rfl hN (si_seq (se_var 0)) (by decide +kernel : blkC N_for_one (defScope s_for_one) _ [("times", 3), ("order", 4)] = true) (fun _ _ _ _ _ => (sg_tup T.hK rfl (sgs_cons (sg_name 3 hN) (sgs_cons (sg_name 4 hN) sgs_nil)))) (fun _ _ _ _ _ => (sts_one (sc_cmp (op_ltV hr.units0) (se_ixT (se_var 4) (sa_cons (se_var 1) sa_nil)) (se_ixT (se_var 4) (sa_cons (se_var 2) sa_nil))))) (fun _ _ _ _ _ => (se_var 3))) sa_nil)))), hm, F.kp, hb⟩
theorem ok_widest (T : Tx K mg G) (F : Fn K mg "widest" "widest" s_widest ["ballots"]) (h_for_one : Has P w0 K mg base G 1 "for_one" 3 d_for_one) : Has P w0 K mg base G 2 "widest" 1 d_widest := by
  obtain ⟨f, fd, F, hm, hb⟩ := F
  have hN := sc_widest.nd
  exact ⟨f, fd, _, fn_run (k := 1) F sc_widest (ms := b_widest) fun cdv A outer s H E hr =>
      (sss_cons (ss_set 1 hN (se_fld T.cl T.n_many (se_var 0)))
      (sss_cons (ss_set 2 hN (se_lcG (own := [("one", 3)]) rfl hN (si_rng1 rfl T.b_range (sa_cons (se_var 1) sa_nil)) (by decide +kernel : blkC N_widest (defScope s_widest) _ [("one", 3)] = true) (fun _ _ _ _ _ => (sg_name 3 hN)) (fun _ _ _ _ _ => sts_nil) (fun _ _ _ _ _ => (se_lcN (own := [("other", 4)]) rfl hN (si_rng1 rfl T.b_range (sa_cons (se_var 1) sa_nil)) (by decide +kernel : blkC N_widest (relS _ (defScope s_widest)) _ [("other", 4)] = true) (fun _ _ _ _ _ => (sg_name 4 hN)) (fun _ _ _ _ _ => sts_nil) (fun _ _ _ _ _ => (se_callH h_for_one (hr.mono (by omega)) (sa_cons (se_fld T.cl T.n_rows (se_var 0)) (sa_cons (se_var 3) (sa_cons (se_var 4) sa_nil)))))))))
      (sss_cons (ss_for PassesOwn.never rfl (si_rng1 rfl T.b_range (sa_cons (se_var 1) sa_nil)) (sg_name 3 hN) (sss_one (ss_for PassesOwn.never rfl (si_rng1 rfl T.b_range (sa_cons (se_var 1) sa_nil)) (sg_name 4 hN) (sss_one (ss_if (sw_or (sc_cmp (op_eqV2 hr.units) (se_var 3) (se_var 4)) (sw_or1 (sc_cmp op_leV (se_callH h_for_one (hr.mono (by omega)) (sa_cons (se_fld T.cl T.n_rows (se_var 0)) (sa_cons (se_var 3) (sa_cons (se_var 4) sa_nil)))) (se_callH h_for_one (hr.mono (by omega)) (sa_cons (se_fld T.cl T.n_rows (se_var 0)) (sa_cons (se_var 4) (sa_cons (se_var 3) sa_nil))))))).c (sss_one (ss_setIx (hu_of hr) (se_ix (hu_of hr) (se_var 2) (se_var 3)) (se_var 4) se_int)) sss_nil)))))
      (sss_cons (ss_for PassesOwn.never rfl (si_rng1 rfl T.b_range (sa_cons (se_var 1) sa_nil)) (sg_name 5 hN) (sss_one (ss_for PassesOwn.never rfl (si_rng1 rfl T.b_range (sa_cons (se_var 1) sa_nil)) (sg_name 3 hN) (sss_one (ss_for PassesOwn.never rfl (si_rng1 rfl T.b_range (sa_cons (se_var 1) sa_nil)) (sg_name 4 hN) (sss_one (ss_setIx (hu_of hr) (se_ix (hu_of hr) (se_var 2) (se_var 3)) (se_var 4) (se_bi (bi_max2 rfl) T.b_max (by decide +kernel) (sa_cons (se_ix (hu_of hr) (se_ix (hu_of hr) (se_var 2) (se_var 3)) (se_var 4)) (sa_cons (se_bi (bi_min2 rfl) T.b_min (by decide +kernel) (sa_cons (se_ix (hu_of hr) (se_ix (hu_of hr) (se_var 2) (se_var 3)) (se_var 5)) (sa_cons (se_ix (hu_of hr) (se_ix (hu_of hr) (se_var 2) (se_var 5)) (se_var 4)) sa_nil))) sa_nil))))))))))
      (sss_cons (ss_setLc 6 (own := [("one", 3)]) rfl hN (si_rng1 rfl T.b_range (sa_cons (se_var 1) sa_nil)) (by decide +kernel : blkC N_widest (defScope s_widest) _ [("one", 3)] = true) (fun _ _ _ _ _ => (sg_name 3 hN)) (fun _ _ _ _ _ => (sts_one (sc_tru (se_bi (bi_all rfl) T.b_all (by decide +kernel) (sa_cons (se_lc (own := [("other", 4)]) rfl hN (si_rng1 rfl T.b_range (sa_cons (se_var 1) sa_nil)) (by decide +kernel : blkC N_widest (relS _ (defScope s_widest)) _ [("other", 4)] = true) (fun _ _ _ _ _ => (sg_name 4 hN)) (fun _ _ _ _ _ => sts_nil) (fun _ _ _ _ _ => (se_cmp op_geV (se_ix (hu_of hr) (se_ix (hu_of hr) (se_var 2) (se_var 3)) (se_var 4)) (se_ix (hu_of hr) (se_ix (hu_of hr) (se_var 2) (se_var 4)) (se_var 3))))) sa_nil))))) (fun _ _ _ _ _ => (se_var 3)))
      (sss_one (ss_ret (se_bt bt_tuple T.b_tuple (by decide +kernel) (sa_cons (se_var 6) sa_nil))))))))), hm, F.kp, hb⟩
theorem ok_L_draw (T : Tx K mg G) (F : Fn K mg "_law_draw" "_law_draw" s_L_draw ["hand", "limit"]) : Has P w0 K mg base G 1 "_law_draw" 2 d_L_draw := by
  obtain ⟨f, fd, F, hm, hb⟩ := F
  have hN := sc_L_draw.nd
  exact ⟨f, fd, _, fn_run (k := 0) F sc_L_draw (ms := b_L_draw) fun cdv A outer s H E hr =>
      (sss_cons (ss_if (sw_and (sc_cmp (op_eqV2 hr.units) (se_ix (hu_of hr) (se_var 0) se_int) se_int) (sw_and1 (sc_cmp (op_ltV hr.units0) (se_ix (hu_of hr) (se_var 0) se_int) (se_bi bi_len T.b_len (by decide +kernel) (sa_cons (se_ix (hu_of hr) (se_var 0) se_int) sa_nil))))).c (sss_cons (ss_set 2 hN (se_ix (hu_of hr) (se_ix (hu_of hr) (se_var 0) se_int) (se_ix (hu_of hr) (se_var 0) se_int)))
      (sss_cons (ss_setIx (hu_of hr) (se_var 0) se_int (se_op op_addV (se_ix (hu_of hr) (se_var 0) se_int) se_int))
      (sss_cons (ss_setIx (hu_of hr) (se_var 0) se_int (se_op op_modV (se_bt bt_int T.b_int (by decide +kernel) (sa_cons (se_op op_addV (se_op op_addV (se_op op_mulV (se_ix (hu_of hr) (se_var 0) se_int) se_int) (se_var 2)) se_int) sa_nil)) se_int))
      (sss_one (ss_if (sc_cmp op_geV (se_var 2) (se_op op_powV se_int se_int)) (sss_one (ss_setIx (hu_of hr) (se_var 0) se_int (se_var 2))) sss_nil))))) sss_nil)
      (sss_cons (ss_if (sc_cmp op_gtV (se_ix (hu_of hr) (se_var 0) se_int) se_int) (sss_cons (ss_set 3 hN (se_op op_modV (se_bt bt_int T.b_int (by decide +kernel) (sa_cons (se_ix (hu_of hr) (se_var 0) se_int) sa_nil)) (se_var 1)))
      (sss_cons (ss_setIx (hu_of hr) (se_var 0) se_int (se_op op_fdivV (se_ix (hu_of hr) (se_var 0) se_int) (se_var 1)))
      (sss_one (ss_ret (se_var 3))))) sss_nil)
      (sss_cons (ss_setIx (hu_of hr) (se_var 0) se_int (se_op op_addV (se_ix (hu_of hr) (se_var 0) se_int) se_int))
      (sss_cons (ss_set 4 hN (se_op op_modV (se_bt bt_int T.b_int (by decide +kernel) (sa_cons (se_op op_mulV (se_bt bt_int T.b_int (by decide +kernel) (sa_cons (se_op op_addV (se_ix (hu_of hr) (se_var 0) se_int) (se_op op_mulV se_int (se_ix (hu_of hr) (se_var 0) se_int))) sa_nil)) se_int) sa_nil)) se_int))
      (sss_cons (ss_set 4 hN (se_op op_modV (se_bt bt_int T.b_int (by decide +kernel) (sa_cons (se_op op_mulV (se_var 4) (se_op op_addV (se_op op_fdivV (se_var 4) se_int) se_int)) sa_nil)) se_int))
      (sss_cons (ss_set 4 hN (se_op op_modV (se_bt bt_int T.b_int (by decide +kernel) (sa_cons (se_op op_mulV (se_var 4) (se_op op_addV (se_op op_fdivV (se_var 4) se_int) se_int)) sa_nil)) se_int))
      (sss_one (ss_ret (se_op op_modV (se_bt bt_int T.b_int (by decide +kernel) (sa_cons (se_op op_fdivV (se_var 4) se_int) sa_nil)) (se_var 1)))))))))), hm, F.kp, hb⟩
theorem ok_L_mixed (T : Tx K mg G) (F : Fn K mg "_law_mixed" "_law_mixed" s_L_mixed ["hand", "things"]) (h_L_draw : Has P w0 K mg base G 1 "_law_draw" 2 d_L_draw) : Has P w0 K mg base G 2 "_law_mixed" 2 d_L_mixed := by
  obtain ⟨f, fd, F, hm, hb⟩ := F
  have hN := sc_L_mixed.nd
  exact ⟨f, fd, _, fn_run (k := 1) F sc_L_mixed (ms := b_L_mixed) fun cdv A outer s H E hr =>
      (sss_cons (ss_par2 2 3 rfl hN (sa_cons (se_bt bt_listN T.b_list (by decide +kernel) (sa_cons (se_var 1) sa_nil)) (sa_cons (se_lstN sa_nil) sa_nil)))
      (sss_cons (ss_while 100000 PassesOwn.never (sc_cmp op_gtV (se_bi bi_len T.b_len (by decide +kernel) (sa_cons (se_var 2) sa_nil)) se_int) (sss_one (ss_expr (se_mt PySem.F.plainAttrs_list PySem.F.slot_list_append PySem.F.type_list_append mt_appendT (se_var 3) (sa_cons (se_mt PySem.F.plainAttrs_list PySem.F.slot_list_pop PySem.F.type_list_pop mt_popIT (se_var 2) (sa_cons (se_callH h_L_draw (hr.mono (by omega)) (sa_cons (se_var 0) (sa_cons (se_bi bi_len T.b_len (by decide +kernel) (sa_cons (se_var 2) sa_nil)) sa_nil))) sa_nil)) sa_nil)))))
      (sss_one (ss_ret (se_var 3))))), hm, F.kp, hb⟩
theorem ok_L_some (T : Tx K mg G) (F : Fn K mg "_law_some" "_law_some" s_L_some ["hand", "items"]) (h_L_draw : Has P w0 K mg base G 1 "_law_draw" 2 d_L_draw) : Has P w0 K mg base G 2 "_law_some" 2 d_L_some := by
  obtain ⟨f, fd, F, hm, hb⟩ := F
  have hN := sc_L_some.nd
  exact ⟨f, fd, _, fn_run (k := 1) F sc_L_some (ms := b_L_some) fun cdv A outer s H E hr =>
      (sss_one (ss_ret (se_ix (hu_of hr) (se_var 1) (se_callH h_L_draw (hr.mono (by omega)) (sa_cons (se_var 0) (sa_cons (se_bi bi_len T.b_len (by decide +kernel) (sa_cons (se_var 1) sa_nil)) sa_nil)))))), hm, F.kp, hb⟩
theorem ok_L_ballots (T : Tx K mg G) (F : Fn K mg "_law_ballots" "_law_ballots" s_L_ballots ["hand", "most"]) (h_L_draw : Has P w0 K mg base G 1 "_law_draw" 2 d_L_draw) (h_L_mixed : Has P w0 K mg base G 2 "_law_mixed" 2 d_L_mixed) (h_L_some : Has P w0 K mg base G 2 "_law_some" 2 d_L_some) : Has P w0 K mg base G 3 "_law_ballots" 2 d_L_ballots := by
  obtain ⟨f, fd, F, hm, hb⟩ := F
  have hN := sc_L_ballots.nd
  exact ⟨f, fd, _, fn_run (k := 2) F sc_L_ballots (ms := b_L_ballots) fun cdv A outer s H E hr =>
      (sss_cons (ss_set 2 hN (se_op op_addV se_int (se_callH h_L_draw (hr.mono (by omega)) (sa_cons (se_var 0) (sa_cons (se_var 1) sa_nil)))))
      (sss_cons (ss_par2 3 4 rfl hN (sa_cons (se_callH h_L_draw (hr.mono (by omega)) (sa_cons (se_var 0) (sa_cons se_int sa_nil))) (sa_cons (se_lstN sa_nil) sa_nil)))
      (sss_cons (ss_for PassesOwn.never rfl (si_rng1 rfl T.b_range (sa_cons (se_op op_addV se_int (se_callH h_L_draw (hr.mono (by omega)) (sa_cons (se_var 0) (sa_cons se_int sa_nil)))) sa_nil)) (sg_name 5 hN) (sss_cons (ss_set 6 hN (se_bt bt_tuple T.b_tuple (by decide +kernel) (sa_cons (se_callH h_L_mixed (hr.mono (by omega)) (sa_cons (se_var 0) (sa_cons (se_lsRg1 rfl T.b_list T.b_range (se_var 2)) sa_nil))) sa_nil)))
      (sss_cons (ss_if (sw_and (sc_cmp (op_eqV2 hr.units) (se_var 3) se_int) (sw_and1 (sc_cmp op_gtV (se_bi bi_len T.b_len (by decide +kernel) (sa_cons (se_var 4) sa_nil)) se_int))).c (sss_one (ss_set 6 hN (se_if (sc_cmp (op_eqV2 hr.units) (se_callH h_L_draw (hr.mono (by omega)) (sa_cons (se_var 0) (sa_cons se_int sa_nil))) se_int) (se_op op_addV (se_sl T.hK (se_ix (hu_of hr) (se_ix (hu_of hr) (se_var 4) se_int) se_int) (so_some se_int) so_none) (se_sl T.hK (se_ix (hu_of hr) (se_ix (hu_of hr) (se_var 4) se_int) se_int) so_none (so_some se_int))) (se_rev (se_ix (hu_of hr) (se_ix (hu_of hr) (se_var 4) (se_un un_negV se_int)) se_int))))) sss_nil)
      (sss_one (ss_expr (se_mt PySem.F.plainAttrs_list PySem.F.slot_list_append PySem.F.type_list_append mt_appendT (se_var 4) (sa_cons (se_tup (sa_cons (se_op op_addV se_int (se_callH h_L_draw (hr.mono (by omega)) (sa_cons (se_var 0) (sa_cons (se_callH h_L_some (hr.mono (by omega)) (sa_cons (se_var 0) (sa_cons (se_lst (sa_cons se_int (sa_cons se_int (sa_cons se_int sa_nil)))) sa_nil))) sa_nil)))) (sa_cons (se_var 6) sa_nil))) sa_nil)))))))
      (sss_one (ss_ret (se_tup (sa_cons (se_var 2) (sa_cons (se_bt bt_tuple T.b_tuple (by decide +kernel) (sa_cons (se_var 4) sa_nil)) sa_nil)))))))), hm, F.kp, hb⟩
theorem ok_margin_rows (T : Tx K mg G) (F : Fn K mg "margin_rows" "margin_rows" s_margin_rows ["rows", "many"]) (h_for_one : Has P w0 K mg base G 1 "for_one" 3 d_for_one) : Has P w0 K mg base G 2 "margin_rows" 2 d_margin_rows := by
  obtain ⟨f, fd, F, hm, hb⟩ := F
  have hN := sc_margin_rows.nd
  exact ⟨f, fd, _, fn_run (k := 1) F sc_margin_rows (ms := b_margin_rows) fun cdv A outer s H E hr =>
      (sss_cons (ss_set 2 hN (se_lstN sa_nil))
      (sss_cons (ss_for PassesOwn.never rfl (si_rng1 rfl T.b_range (sa_cons (se_var 1) sa_nil)) (sg_name 3 hN) (sss_one (ss_expr (se_mt PySem.F.plainAttrs_list PySem.F.slot_list_append PySem.F.type_list_append mt_appendT (se_var 2) (sa_cons (se_bt bt_tuple T.b_tuple (by decide +kernel) (sa_cons (se_lc (own := [("other", 4)]) rfl hN (si_rng1 rfl T.b_range (sa_cons (se_var 1) sa_nil)) (by decide +kernel : blkC N_margin_rows (defScope s_margin_rows) _ [("other", 4)] = true) (fun _ _ _ _ _ => (sg_name 4 hN)) (fun _ _ _ _ _ => sts_nil) (fun _ _ _ _ _ => (se_op op_subV (se_callH h_for_one (hr.mono (by omega)) (sa_cons (se_var 0) (sa_cons (se_var 3) (sa_cons (se_var 4) sa_nil)))) (se_callH h_for_one (hr.mono (by omega)) (sa_cons (se_var 0) (sa_cons (se_var 4) (sa_cons (se_var 3) sa_nil))))))) sa_nil)) sa_nil)))))
      (sss_one (ss_ret (se_bt bt_tuple T.b_tuple (by decide +kernel) (sa_cons (se_var 2) sa_nil)))))), hm, F.kp, hb⟩
theorem ok_beater_of (T : Tx K mg G) (F : Fn K mg "beater_of" "beater_of" s_beater_of ["rows", "many"]) (h_margin_rows : Has P w0 K mg base G 2 "margin_rows" 2 d_margin_rows) : Has P w0 K mg base G 3 "beater_of" 2 d_beater_of := by
  obtain ⟨f, fd, F, hm, hb⟩ := F
  have hN := sc_beater_of.nd
  exact ⟨f, fd, _, fn_run (k := 2) F sc_beater_of (ms := b_beater_of) fun cdv A outer s H E hr =>
      (sss_cons (ss_set 2 hN (se_callH h_margin_rows (hr.mono (by omega)) (sa_cons (se_var 0) (sa_cons (se_var 1) sa_nil))))
      (sss_cons (ss_setLc 3 (own := [("one", 4)]) rfl hN (si_rng1 rfl T.b_range (sa_cons (se_var 1) sa_nil)) (by decide +kernel : blkC N_beater_of (defScope s_beater_of) _ [("one", 4)] = true) (fun _ _ _ _ _ => (sg_name 4 hN)) (fun _ _ _ _ _ => (sts_one (sc_tru (se_bi (bi_all rfl) T.b_all (by decide +kernel) (sa_cons (se_lc (own := [("other", 5)]) rfl hN (si_rng1 rfl T.b_range (sa_cons (se_var 1) sa_nil)) (by decide +kernel : blkC N_beater_of (relS _ (defScope s_beater_of)) _ [("other", 5)] = true) (fun _ _ _ _ _ => (sg_name 5 hN)) (fun _ _ _ _ _ => (sts_one (sc_cmp (op_neV2 hr.units) (se_var 5) (se_var 4)))) (fun _ _ _ _ _ => (se_cmp op_gtV (se_ix (hu_of hr) (se_ix (hu_of hr) (se_var 2) (se_var 4)) (se_var 5)) se_int))) sa_nil))))) (fun _ _ _ _ _ => (se_var 4)))
      (sss_one (ss_ret (se_if (sc_cmp op_gtV (se_bi bi_len T.b_len (by decide +kernel) (sa_cons (se_var 3) sa_nil)) se_int) (se_ix (hu_of hr) (se_var 3) se_int) se_non))))), hm, F.kp, hb⟩
theorem ok_beater (T : Tx K mg G) (F : Fn K mg "beater" "beater" s_beater ["ballots"]) (h_beater_of : Has P w0 K mg base G 3 "beater_of" 2 d_beater_of) : Has P w0 K mg base G 4 "beater" 1 d_beater := by
  obtain ⟨f, fd, F, hm, hb⟩ := F
  have hN := sc_beater.nd
  exact ⟨f, fd, _, fn_run (k := 3) F sc_beater (ms := b_beater) fun cdv A outer s H E hr =>
      (sss_one (ss_ret (se_callH h_beater_of (hr.mono (by omega)) (sa_cons (se_fld T.cl T.n_rows (se_var 0)) (sa_cons (se_fld T.cl T.n_many (se_var 0)) sa_nil))))), hm, F.kp, hb⟩
theorem ok_L_called (T : Tx K mg G) (F : Fn K mg "_law_called" "_law_called" s_L_called ["hand", "many", "rows"]) (h_L_mixed : Has P w0 K mg base G 2 "_law_mixed" 2 d_L_mixed) : Has P w0 K mg base G 3 "_law_called" 3 d_L_called := by
  obtain ⟨f, fd, F, hm, hb⟩ := F
  have hN := sc_L_called.nd
  exact ⟨f, fd, _, fn_run (k := 2) F sc_L_called (ms := b_L_called) fun cdv A outer s H E hr =>
      (sss_cons (ss_set 3 hN (se_callH h_L_mixed (hr.mono (by omega)) (sa_cons (se_var 0) (sa_cons (se_lsRg1 rfl T.b_list T.b_range (se_var 1)) sa_nil))))
      (sss_one (ss_ret (se_tup (sa_cons (se_var 3) (sa_cons (se_bt bt_tuple T.b_tuple (by decide +kernel) (sa_cons (se_lc (own := [("times", 4), ("order", 5)]) rfl hN (si_seq (se_var 2)) (by decide +kernel : blkC N_L_called (defScope s_L_called) _ [("times", 4), ("order", 5)] = true) (fun _ _ _ _ _ => (sg_tup T.hK rfl (sgs_cons (sg_name 4 hN) (sgs_cons (sg_name 5 hN) sgs_nil)))) (fun _ _ _ _ _ => sts_nil) (fun _ _ _ _ _ => (se_tup (sa_cons (se_var 4) (sa_cons (se_bt bt_tuple T.b_tuple (by decide +kernel) (sa_cons (se_lc (own := [("one", 6)]) rfl hN (si_seq (se_var 5)) (by decide +kernel : blkC N_L_called (relS _ (defScope s_L_called)) _ [("one", 6)] = true) (fun _ _ _ _ _ => (sg_name 6 hN)) (fun _ _ _ _ _ => sts_nil) (fun _ _ _ _ _ => (se_ix (hu_of hr) (se_var 3) (se_var 6)))) sa_nil)) sa_nil))))) sa_nil)) sa_nil)))))), hm, F.kp, hb⟩
theorem ok_L_is (T : Tx K mg G) (F : Fn K mg "_law_is" "_law_is" s_L_is ["thing", "due"]) : ∀ n, Has P w0 K mg base G (0 + n) "_law_is" 2 (d_L_is n)
  | 0 => by
    obtain ⟨f, fd, F, hm, hb⟩ := F
    exact ⟨f, fd, _, fn_none F sc_L_is, hm, F.kp, hb⟩
  | n + 1 => by
    have h_L_is := ok_L_is T F n
    obtain ⟨f, fd, F, hm, hb⟩ := F
    have hN := sc_L_is.nd
    exact ⟨f, fd, _, fn_run (k := 0 + n) F sc_L_is (ms := b_L_is (d_L_is n)) fun cdv A outer s H E hr =>
      (sss_cons (ss_if (sw_or (sc_tru (se_isi (T := "tuple") (by decide +kernel) T.b_isinstance T.b_tuple (by decide +kernel) (se_var 1))) (sw_or1 (sc_tru (se_isi (T := "list") (by decide +kernel) T.b_isinstance T.b_list (by decide +kernel) (se_var 1))))).c (sss_cons (ss_if (sw_or (sc_cmp (op_neV2 hr.units) (se_isi (T := "tuple") (by decide +kernel) T.b_isinstance T.b_tuple (by decide +kernel) (se_var 1)) (se_isi (T := "tuple") (by decide +kernel) T.b_isinstance T.b_tuple (by decide +kernel) (se_var 0))) (sw_or1 (sc_cmp (op_neV2 hr.units) (se_isi (T := "list") (by decide +kernel) T.b_isinstance T.b_list (by decide +kernel) (se_var 1)) (se_isi (T := "list") (by decide +kernel) T.b_isinstance T.b_list (by decide +kernel) (se_var 0))))).c (sss_one (ss_ret se_bl)) sss_nil)
      (sss_one (ss_ret (se_and (se_cmp (op_eqV2 hr.units) (se_bi bi_len T.b_len (by decide +kernel) (sa_cons (se_var 0) sa_nil)) (se_bi bi_len T.b_len (by decide +kernel) (sa_cons (se_var 1) sa_nil))) (se_one (se_bi (bi_all rfl) T.b_all (by decide +kernel) (sa_cons (se_lc (own := [("one", 2), ("other", 3)]) rfl hN (si_zip rfl T.b_zip (sa_cons (se_var 0) (sa_cons (se_var 1) sa_nil))) (by decide +kernel : blkC N_L_is (defScope s_L_is) _ [("one", 2), ("other", 3)] = true) (fun _ _ _ _ _ => (sg_tup T.hK rfl (sgs_cons (sg_name 2 hN) (sgs_cons (sg_name 3 hN) sgs_nil)))) (fun _ _ _ _ _ => sts_nil) (fun _ _ _ _ _ => (se_callH h_L_is (hr.mono (by omega)) (sa_cons (se_var 2) (sa_cons (se_var 3) sa_nil))))) sa_nil))))))) sss_nil)
      (sss_cons (ss_if (sw_or (sc_isN (se_var 1)) (sw_or1 (sc_isN (se_var 0)))).c (sss_one (ss_ret (se_and (se_isN (se_var 1)) (se_one (se_isN (se_var 0)))))) sss_nil)
      (sss_cons (ss_if (sw_or (sc_tru (se_isi (T := "bool") (by decide +kernel) T.b_isinstance T.b_bool (by decide +kernel) (se_var 1))) (sw_or1 (sc_tru (se_isi (T := "bool") (by decide +kernel) T.b_isinstance T.b_bool (by decide +kernel) (se_var 0))))).c (sss_one (ss_ret (se_and (se_isi (T := "bool") (by decide +kernel) T.b_isinstance T.b_bool (by decide +kernel) (se_var 1)) (se_and (se_isi (T := "bool") (by decide +kernel) T.b_isinstance T.b_bool (by decide +kernel) (se_var 0)) (se_one (se_cmp (op_eqV2 hr.units) (se_var 0) (se_var 1))))))) sss_nil)
      (sss_cons (ss_if (sw_or (sc_tru (se_isi (T := "str") (by decide +kernel) T.b_isinstance T.b_str (by decide +kernel) (se_var 1))) (sw_or1 (sc_tru (se_isi (T := "str") (by decide +kernel) T.b_isinstance T.b_str (by decide +kernel) (se_var 0))))).c (sss_one (ss_ret (se_and (se_isi (T := "str") (by decide +kernel) T.b_isinstance T.b_str (by decide +kernel) (se_var 1)) (se_and (se_isi (T := "str") (by decide +kernel) T.b_isinstance T.b_str (by decide +kernel) (se_var 0)) (se_one (se_cmp (op_eqV2 hr.units) (se_var 0) (se_var 1))))))) sss_nil)
      (sss_one (ss_ret (se_and (se_isi (T := "int") (by decide +kernel) T.b_isinstance T.b_int (by decide +kernel) (se_var 0)) (se_one (se_cmp (op_eqV2 hr.units) (se_var 0) (se_var 1)))))))))), hm, F.kp, hb⟩
theorem ok_L_over (T : Tx K mg G) (F : Fn K mg "_law_over" "_law_over" s_L_over ["rows", "one", "other"]) : Has P w0 K mg base G 1 "_law_over" 3 d_L_over := by
  obtain ⟨f, fd, F, hm, hb⟩ := F
  have hN := sc_L_over.nd
  exact ⟨f, fd, _, fn_run (k := 0) F sc_L_over (ms := b_L_over) fun cdv A outer s H E hr =>
      (sss_one (ss_ret (se_bi (bi_sum rfl) T.b_sum (by decide +kernel) (sa_cons (se_lc (own := [("many", 3), ("order", 4)]) rfl hN (si_seq (se_var 0)) (by decide +kernel : blkC N_L_over (defScope s_L_over) _ [("many", 3), ("order", 4)] = true) (fun _ _ _ _ _ => (sg_tup T.hK rfl (sgs_cons (sg_name 3 hN) (sgs_cons (sg_name 4 hN) sgs_nil)))) (fun _ _ _ _ _ => (sts_one (sc_cmp (op_ltV hr.units0) (se_ixT (se_var 4) (sa_cons (se_var 1) sa_nil)) (se_ixT (se_var 4) (sa_cons (se_var 2) sa_nil))))) (fun _ _ _ _ _ => (se_var 3))) sa_nil)))), hm, F.kp, hb⟩
theorem ok_L_margins (T : Tx K mg G) (F : Fn K mg "_law_margins" "_law_margins" s_L_margins ["many", "rows"]) (h_L_over : Has P w0 K mg base G 1 "_law_over" 3 d_L_over) : Has P w0 K mg base G 2 "_law_margins" 2 d_L_margins := by
  obtain ⟨f, fd, F, hm, hb⟩ := F
  have hN := sc_L_margins.nd
  exact ⟨f, fd, _, fn_run (k := 1) F sc_L_margins (ms := b_L_margins) fun cdv A outer s H E hr =>
      (sss_cons (ss_set 2 hN (se_lstN sa_nil))
      (sss_cons (ss_for PassesOwn.never rfl (si_rng1 rfl T.b_range (sa_cons (se_var 0) sa_nil)) (sg_name 3 hN) (sss_one (ss_expr (se_mt PySem.F.plainAttrs_list PySem.F.slot_list_append PySem.F.type_list_append mt_appendT (se_var 2) (sa_cons (se_bt bt_tuple T.b_tuple (by decide +kernel) (sa_cons (se_lc (own := [("other", 4)]) rfl hN (si_rng1 rfl T.b_range (sa_cons (se_var 0) sa_nil)) (by decide +kernel : blkC N_L_margins (defScope s_L_margins) _ [("other", 4)] = true) (fun _ _ _ _ _ => (sg_name 4 hN)) (fun _ _ _ _ _ => sts_nil) (fun _ _ _ _ _ => (se_op op_subV (se_callH h_L_over (hr.mono (by omega)) (sa_cons (se_var 1) (sa_cons (se_var 3) (sa_cons (se_var 4) sa_nil)))) (se_callH h_L_over (hr.mono (by omega)) (sa_cons (se_var 1) (sa_cons (se_var 4) (sa_cons (se_var 3) sa_nil))))))) sa_nil)) sa_nil)))))
      (sss_one (ss_ret (se_bt bt_tuple T.b_tuple (by decide +kernel) (sa_cons (se_var 2) sa_nil)))))), hm, F.kp, hb⟩
theorem ok_L_width (T : Tx K mg G) (F : Fn K mg "_law_width" "_law_width" s_L_width ["many", "rows", "begin", "end"]) (h_L_margins : Has P w0 K mg base G 2 "_law_margins" 2 d_L_margins) (h_L_over : Has P w0 K mg base G 1 "_law_over" 3 d_L_over) : Has P w0 K mg base G 3 "_law_width" 4 d_L_width := by
  obtain ⟨f, fd, F, hm, hb⟩ := F
  have hN := sc_L_width.nd
  exact ⟨f, fd, _, fn_run (k := 2) F sc_L_width (ms := b_L_width) fun cdv A outer s H E hr =>
      (sss_cons (ss_parG rfl (sa_cons (se_callH h_L_margins (hr.mono (by omega)) (sa_cons (se_var 0) (sa_cons (se_var 1) sa_nil))) (sa_cons se_int (sa_cons (se_lstN (sa_cons (se_tup (sa_cons (se_tup (sa_cons (se_var 2) sa_nil)) (sa_cons (se_op op_powV se_int se_int) sa_nil))) sa_nil)) sa_nil))) (sns_cons 4 hN (sns_cons 5 hN (sns_cons 6 hN sns_nil))))
      (sss_cons (ss_while 100000 PassesOwn.never (sc_cmp op_gtV (se_bi bi_len T.b_len (by decide +kernel) (sa_cons (se_var 6) sa_nil)) se_int) (sss_cons (ss_unp (se_mt0 PySem.F.plainAttrs_list PySem.F.slot_list_pop PySem.F.type_list_pop mt_popT (se_var 6)) (sg_tup T.hK rfl (sgs_cons (sg_name 7 hN) (sgs_cons (sg_name 8 hN) sgs_nil))))
      (sss_one (ss_for PassesOwn.never rfl (si_seq (se_lc (own := [("one", 9)]) rfl hN (si_rng1 rfl T.b_range (sa_cons (se_var 0) sa_nil)) (by decide +kernel : blkC N_L_width (defScope s_L_width) _ [("one", 9)] = true) (fun _ _ _ _ _ => (sg_name 9 hN)) (fun _ _ _ _ _ => (sts_one (sw_and (sc_nin (hu_of hr) (se_var 9) (se_var 7)) (sw_and1 (sc_cmp op_gtV (se_ix (hu_of hr) (se_ix (hu_of hr) (se_var 4) (se_ix (hu_of hr) (se_var 7) (se_un un_negV se_int))) (se_var 9)) se_int))).c)) (fun _ _ _ _ _ => (se_var 9)))) (sg_name 9 hN) (sss_cons (ss_set 10 hN (se_bi (bi_min2 rfl) T.b_min (by decide +kernel) (sa_cons (se_var 8) (sa_cons (se_callH h_L_over (hr.mono (by omega)) (sa_cons (se_var 1) (sa_cons (se_ix (hu_of hr) (se_var 7) (se_un un_negV se_int)) (sa_cons (se_var 9) sa_nil)))) sa_nil))))
      (sss_one (ss_if (sc_cmp (op_eqV2 hr.units) (se_var 9) (se_var 3)) (sss_one (ss_set 5 hN (se_bi (bi_max2 rfl) T.b_max (by decide +kernel) (sa_cons (se_var 5) (sa_cons (se_var 10) sa_nil))))) (sss_one (ss_expr (se_mt PySem.F.plainAttrs_list PySem.F.slot_list_append PySem.F.type_list_append mt_appendT (se_var 6) (sa_cons (se_tup (sa_cons (se_op op_addV (se_var 7) (se_tup (sa_cons (se_var 9) sa_nil))) (sa_cons (se_var 10) sa_nil))) sa_nil)))))))))))
      (sss_one (ss_ret (se_var 5))))), hm, F.kp, hb⟩
theorem ok_margins (T : Tx K mg G) (F : Fn K mg "margins" "margins" s_margins ["ballots"]) (h_margin_rows : Has P w0 K mg base G 2 "margin_rows" 2 d_margin_rows) : Has P w0 K mg base G 3 "margins" 1 d_margins := by
  obtain ⟨f, fd, F, hm, hb⟩ := F
  have hN := sc_margins.nd
  exact ⟨f, fd, _, fn_run (k := 2) F sc_margins (ms := b_margins) fun cdv A outer s H E hr =>
      (sss_one (ss_ret (se_callH h_margin_rows (hr.mono (by omega)) (sa_cons (se_fld T.cl T.n_rows (se_var 0)) (sa_cons (se_fld T.cl T.n_many (se_var 0)) sa_nil))))), hm, F.kp, hb⟩
theorem ok_closed_from (T : Tx K mg G) (F : Fn K mg "closed_from" "closed_from" s_closed_from ["table", "start"]) : Has P w0 K mg base G 1 "closed_from" 2 d_closed_from := by
  obtain ⟨f, fd, F, hm, hb⟩ := F
  have hN := sc_closed_from.nd
  exact ⟨f, fd, _, fn_run (k := 0) F sc_closed_from (ms := b_closed_from) fun cdv A outer s H E hr =>
      (sss_cons (ss_par2 2 3 rfl hN (sa_cons (se_disp (sps_cons (se_var 1) se_bl sps_nil)) (sa_cons (se_lstN (sa_cons (se_var 1) sa_nil)) sa_nil)))
      (sss_cons (ss_while 100000 PassesOwn.never (sc_cmp op_gtV (se_bi bi_len T.b_len (by decide +kernel) (sa_cons (se_var 3) sa_nil)) se_int) (sss_cons (ss_set 4 hN (se_mt0 PySem.F.plainAttrs_list PySem.F.slot_list_pop PySem.F.type_list_pop mt_popT (se_var 3)))
      (sss_one (ss_for PassesOwn.never rfl (si_rng1 rfl T.b_range (sa_cons (se_bi bi_len T.b_len (by decide +kernel) (sa_cons (se_var 0) sa_nil)) sa_nil)) (sg_name 5 hN) (sss_one (ss_if (sw_and (sc_nin (hu_of hr) (se_var 5) (se_var 2)) (sw_and1 (sc_cmp op_leV (se_ix (hu_of hr) (se_ix (hu_of hr) (se_var 0) (se_var 4)) (se_var 5)) se_int))).c (sss_cons (ss_setIx (hu_of hr) (se_var 2) (se_var 5) se_bl)
      (sss_one (ss_expr (se_mt PySem.F.plainAttrs_list PySem.F.slot_list_append PySem.F.type_list_append mt_appendT (se_var 3) (sa_cons (se_var 5) sa_nil))))) sss_nil))))))
      (sss_one (ss_ret (se_bt bt_tuple T.b_tuple (by decide +kernel) (sa_cons (se_bi (bi_sortedD rfl) T.b_sorted (by decide +kernel) (sa_cons (se_var 2) sa_nil)) sa_nil)))))), hm, F.kp, hb⟩
theorem ok_smith (T : Tx K mg G) (F : Fn K mg "smith" "smith" s_smith ["ballots"]) (h_closed_from : Has P w0 K mg base G 1 "closed_from" 2 d_closed_from) (h_margins : Has P w0 K mg base G 3 "margins" 1 d_margins) : Has P w0 K mg base G 4 "smith" 1 d_smith := by
  obtain ⟨f, fd, F, hm, hb⟩ := F
  have hN := sc_smith.nd
  exact ⟨f, fd, _, fn_run (k := 3) F sc_smith (ms := b_smith) fun cdv A outer s H E hr =>
      (sss_cons (ss_set 1 hN (se_callH h_margins (hr.mono (by omega)) (sa_cons (se_var 0) sa_nil)))
      (sss_cons (ss_set 2 hN (se_lc (own := [("start", 3)]) rfl hN (si_rng1 rfl T.b_range (sa_cons (se_fld T.cl T.n_many (se_var 0)) sa_nil)) (by decide +kernel : blkC N_smith (defScope s_smith) _ [("start", 3)] = true) (fun _ _ _ _ _ => (sg_name 3 hN)) (fun _ _ _ _ _ => sts_nil) (fun _ _ _ _ _ => (se_callH h_closed_from (hr.mono (by omega)) (sa_cons (se_var 1) (sa_cons (se_var 3) sa_nil))))))
      (sss_one (ss_ret (se_ix (hu_of hr) (se_lc (own := [("lot", 4)]) rfl hN (si_seq (se_var 2)) (by decide +kernel : blkC N_smith (defScope s_smith) _ [("lot", 4)] = true) (fun _ _ _ _ _ => (sg_name 4 hN)) (fun _ _ _ _ _ => (sts_one (sc_cmp (op_eqV2 hr.units) (se_bi bi_len T.b_len (by decide +kernel) (sa_cons (se_var 4) sa_nil)) (se_bi (bi_min rfl) T.b_min (by decide +kernel) (sa_cons (se_lc (own := [("other", 5)]) rfl hN (si_seq (se_var 2)) (by decide +kernel : blkC N_smith (relS _ (defScope s_smith)) _ [("other", 5)] = true) (fun _ _ _ _ _ => (sg_name 5 hN)) (fun _ _ _ _ _ => sts_nil) (fun _ _ _ _ _ => (se_bi bi_len T.b_len (by decide +kernel) (sa_cons (se_var 5) sa_nil)))) sa_nil))))) (fun _ _ _ _ _ => (se_var 4))) se_int))))), hm, F.kp, hb⟩
theorem ok_L_is_right (T : Tx K mg G) (F : Fn K mg "_law_is_right" "_law_is_right" s_L_is_right ["hand"]) (h_Ballots___init__ : HasC P w0 K mg base G 4 "Ballots" 0 3 d_Ballots___init__) (h_L_ballots : Has P w0 K mg base G 3 "_law_ballots" 2 d_L_ballots) (h_L_called : Has P w0 K mg base G 3 "_law_called" 3 d_L_called) (h_L_is : Has P w0 K mg base G 64 "_law_is" 2 (d_L_is f_L_is)) (h_L_width : Has P w0 K mg base G 3 "_law_width" 4 d_L_width) (h_beater : Has P w0 K mg base G 4 "beater" 1 d_beater) (h_smith : Has P w0 K mg base G 4 "smith" 1 d_smith) (h_widest : Has P w0 K mg base G 2 "widest" 1 d_widest) : Has P w0 K mg base G 65 "_law_is_right" 1 d_L_is_right := by
  obtain ⟨f, fd, F, hm, hb⟩ := F
  have hN := sc_L_is_right.nd
  exact ⟨f, fd, _, fn_run (k := 64) F sc_L_is_right (ms := b_L_is_right) fun cdv A outer s H E hr =>
      (sss_cons (ss_unp (se_callH h_L_ballots (hr.mono (by omega)) (sa_cons (se_var 0) (sa_cons se_int sa_nil))) (sg_tup T.hK rfl (sgs_cons (sg_name 1 hN) (sgs_cons (sg_name 2 hN) sgs_nil))))
      (sss_cons (ss_parG rfl (sa_cons (se_makeH h_Ballots___init__ (hr.mono (by omega)) (sa_cons (se_var 1) (sa_cons (se_var 2) sa_nil))) (sa_cons (se_lstN sa_nil) sa_nil)) (sns_cons 3 hN (sns_cons 4 hN sns_nil)))
      (sss_cons (ss_for PassesOwn.never rfl (si_rng1 rfl T.b_range (sa_cons (se_var 1) sa_nil)) (sg_name 5 hN) (sss_cons (ss_setLc 6 (own := [("other", 12)]) rfl hN (si_rng1 rfl T.b_range (sa_cons (se_var 1) sa_nil)) (by decide +kernel : blkC N_L_is_right (defScope s_L_is_right) _ [("other", 12)] = true) (fun _ _ _ _ _ => (sg_name 12 hN)) (fun _ _ _ _ _ => (sts_one (sc_cmp (op_neV2 hr.units) (se_var 12) (se_var 5)))) (fun _ _ _ _ _ => (se_var 12)))
      (sss_one (ss_if (sc_tru (se_bi (bi_all rfl) T.b_all (by decide +kernel) (sa_cons (se_lc (own := [("other", 12)]) rfl hN (si_seq (se_var 6)) (by decide +kernel : blkC N_L_is_right (defScope s_L_is_right) _ [("other", 12)] = true) (fun _ _ _ _ _ => (sg_name 12 hN)) (fun _ _ _ _ _ => sts_nil) (fun _ _ _ _ _ => (se_cmp op_geV (se_callH h_L_width (hr.mono (by omega)) (sa_cons (se_var 1) (sa_cons (se_var 2) (sa_cons (se_var 5) (sa_cons (se_var 12) sa_nil))))) (se_callH h_L_width (hr.mono (by omega)) (sa_cons (se_var 1) (sa_cons (se_var 2) (sa_cons (se_var 12) (sa_cons (se_var 5) sa_nil)))))))) sa_nil))) (sss_one (ss_expr (se_mt PySem.F.plainAttrs_list PySem.F.slot_list_append PySem.F.type_list_append mt_appendT (se_var 4) (sa_cons (se_var 5) sa_nil)))) sss_nil))))
      (sss_cons (ss_set 7 hN (se_callH h_widest (hr.mono (by omega)) (sa_cons (se_var 3) sa_nil)))
      (sss_cons (ss_if (sw_or (sc_not (sc_tru (se_callH h_L_is (hr.mono (by omega)) (sa_cons (se_var 7) (sa_cons (se_bt bt_tuple T.b_tuple (by decide +kernel) (sa_cons (se_var 4) sa_nil)) sa_nil))))) (sw_or1 (sc_cmp (op_eqV2 hr.units) (se_bi bi_len T.b_len (by decide +kernel) (sa_cons (se_var 7) sa_nil)) se_int))).c (sss_one (ss_ret se_bl)) sss_nil)
      (sss_cons (ss_set 8 hN (se_callH h_beater (hr.mono (by omega)) (sa_cons (se_var 3) sa_nil)))
      (sss_cons (ss_if (sw_or (sw_and (sc_notN (se_var 8)) (sw_and1 (sc_cmp (op_neV2 hr.units) (se_var 7) (se_tup (sa_cons (se_var 8) sa_nil))))).c (sw_or1 (sc_not (sc_tru (se_bi (bi_all rfl) T.b_all (by decide +kernel) (sa_cons (se_lc (own := [("one", 5)]) rfl hN (si_seq (se_var 7)) (by decide +kernel : blkC N_L_is_right (defScope s_L_is_right) _ [("one", 5)] = true) (fun _ _ _ _ _ => (sg_name 5 hN)) (fun _ _ _ _ _ => sts_nil) (fun _ _ _ _ _ => (se_in (hu_of hr) (se_var 5) (se_callH h_smith (hr.mono (by omega)) (sa_cons (se_var 3) sa_nil))))) sa_nil)))))).c (sss_one (ss_ret se_bl)) sss_nil)
      (sss_cons (ss_unp (se_callH h_L_called (hr.mono (by omega)) (sa_cons (se_var 0) (sa_cons (se_var 1) (sa_cons (se_var 2) sa_nil)))) (sg_tup T.hK rfl (sgs_cons (sg_name 9 hN) (sgs_cons (sg_name 10 hN) sgs_nil))))
      (sss_cons (ss_if (sc_cmp (op_neV2 hr.units) (se_callH h_widest (hr.mono (by omega)) (sa_cons (se_makeH h_Ballots___init__ (hr.mono (by omega)) (sa_cons (se_var 1) (sa_cons (se_var 10) sa_nil))) sa_nil)) (se_bt bt_tuple T.b_tuple (by decide +kernel) (sa_cons (se_bi bi_sorted T.b_sorted (by decide +kernel) (sa_cons (se_lc (own := [("one", 5)]) rfl hN (si_seq (se_var 7)) (by decide +kernel : blkC N_L_is_right (defScope s_L_is_right) _ [("one", 5)] = true) (fun _ _ _ _ _ => (sg_name 5 hN)) (fun _ _ _ _ _ => sts_nil) (fun _ _ _ _ _ => (se_ix (hu_of hr) (se_var 9) (se_var 5)))) sa_nil)) sa_nil))) (sss_one (ss_ret se_bl)) sss_nil)
      (sss_cons (ss_if (sc_cmp (op_eqV2 hr.units) (se_var 1) se_int) (sss_one (ss_ret se_bl)) sss_nil)
      (sss_cons (ss_set 11 hN (se_makeH h_Ballots___init__ (hr.mono (by omega)) (sa_cons (se_op op_addV (se_var 1) se_int) (sa_cons (se_bt bt_tuple T.b_tuple (by decide +kernel) (sa_cons (se_lc (own := [("times", 13), ("order", 14)]) rfl hN (si_seq (se_var 2)) (by decide +kernel : blkC N_L_is_right (defScope s_L_is_right) _ [("times", 13), ("order", 14)] = true) (fun _ _ _ _ _ => (sg_tup T.hK rfl (sgs_cons (sg_name 13 hN) (sgs_cons (sg_name 14 hN) sgs_nil)))) (fun _ _ _ _ _ => sts_nil) (fun _ _ _ _ _ => (se_tup (sa_cons (se_var 13) (sa_cons (se_op op_addV (se_var 14) (se_tup (sa_cons (se_var 1) sa_nil))) sa_nil))))) sa_nil)) sa_nil))))
      (sss_one (ss_ret (se_cmp (op_eqV2 hr.units) (se_callH h_widest (hr.mono (by omega)) (sa_cons (se_var 11) sa_nil)) (se_var 7))))))))))))))), hm, F.kp, hb⟩
theorem ok_law {fa : Addr} {fd : FuncData} (T : Tx K mg G) (F : Fun K "law" "law" s_law fa fd) (h_Ballots___init__ : HasC P w0 K mg base G 4 "Ballots" 0 3 d_Ballots___init__) (h_L_hand : Has P w0 K mg base G 1 "_law_hand" 1 d_L_hand) (h_L_is_right : Has P w0 K mg base G 65 "_law_is_right" 1 d_L_is_right) (h_widest : Has P w0 K mg base G 2 "widest" 1 d_widest) : FnOk P w0 K mg base CX0 66 fa fd ["script"] (spOf G 1 d_law) := by
  have hN := sc_law.nd
  exact fn_run (k := 65) F sc_law (ms := b_law) fun cdv A outer s H E hr =>
      (sss_cons (ss_set 1 hN (se_callHN h_L_hand (hr.mono (by omega)) (sa_cons (se_var 0) sa_nil)))
      (sss_cons (ss_set 2 hN (se_makeH h_Ballots___init__ (hr.mono (by omega)) (sa_cons se_int (sa_cons (se_tup (sa_cons (se_tup (sa_cons se_int (sa_cons (se_tup (sa_cons se_int (sa_cons se_int (sa_cons se_int sa_nil)))) sa_nil))) (sa_cons (se_tup (sa_cons se_int (sa_cons (se_tup (sa_cons se_int (sa_cons se_int (sa_cons se_int sa_nil)))) sa_nil))) (sa_cons (se_tup (sa_cons se_int (sa_cons (se_tup (sa_cons se_int (sa_cons se_int (sa_cons se_int sa_nil)))) sa_nil))) sa_nil)))) sa_nil))))
      (sss_cons (ss_if (sw_or (sc_cmp (op_neV2 hr.units) (se_callH h_widest (hr.mono (by omega)) (sa_cons (se_var 2) sa_nil)) (se_tup (sa_cons se_int sa_nil))) (sw_or1 (sc_cmp (op_neV2 hr.units) (se_callH h_widest (hr.mono (by omega)) (sa_cons (se_makeH h_Ballots___init__ (hr.mono (by omega)) (sa_cons se_int (sa_cons (se_tup (sa_cons (se_tup (sa_cons se_int (sa_cons (se_tup (sa_cons se_int (sa_cons se_int sa_nil))) sa_nil))) (sa_cons (se_tup (sa_cons se_int (sa_cons (se_tup (sa_cons se_int (sa_cons se_int sa_nil))) sa_nil))) sa_nil))) sa_nil))) sa_nil)) (se_tup (sa_cons se_int (sa_cons se_int sa_nil)))))).c (sss_one (ss_ret se_bl)) sss_nil)
      (sss_one (ss_ret (se_bi (bi_all rfl) T.b_all (by decide +kernel) (sa_cons (se_lc (own := [("turn", 3)]) rfl hN (si_rng1 rfl T.b_range (sa_cons se_int sa_nil)) (by decide +kernel : blkC N_law (defScope s_law) _ [("turn", 3)] = true) (fun _ _ _ _ _ => (sg_name 3 hN)) (fun _ _ _ _ _ => sts_nil) (fun _ _ _ _ _ => (se_callH h_L_is_right (hr.mono (by omega)) (sa_cons (se_var 1) sa_nil)))) sa_nil)))))))
end
theorem all_mk {l : PySem.W.OpenLaw} {w : World} {K : PySem.W.Frag} {h : Heap} {mg : Str → Option Value} {fa C0 f0 f1 f2 f3 f4 f5 f6 f7 f8 f9 f10 f11 f12 f13 f14 f15 f16 f17 f18 f19 f20 f21 f22 f23 f24 f25 : Addr} (X : K.In h) (G : h.Ns mainGlobals mg) (hfa : mg "law" = some (.ref fa))
    {od0 an0 od1 an1 od2 an2 od3 an3 od4 an4 od5 an5 od6 an6 od7 an7 od8 an8 od9 an9 od10 an10 od11 an11 od12 an12 od13 an13 od14 an14 od15 an15 od16 an16 od17 an17 od18 an18 od19 an19 od20 an20 od21 an21 od22 an22 od23 an23 od24 an24 od25 an25 : Option Addr} {sl0 sl1 sl2 sl3 sl4 sl5 sl6 sl7 sl8 sl9 sl10 sl11 sl12 sl13 sl14 sl15 sl16 sl17 sl18 sl19 sl20 sl21 sl22 sl23 sl24 sl25 : Array (Option Value)} {oc0 kV0 dc0 pm0 cd0 ct0 oc1 kV1 dc1 pm1 cd1 ct1 oc2 kV2 dc2 pm2 cd2 ct2 oc3 kV3 dc3 pm3 cd3 ct3 oc4 kV4 dc4 pm4 cd4 ct4 oc5 kV5 dc5 pm5 cd5 ct5 oc6 kV6 dc6 pm6 cd6 ct6 oc7 kV7 dc7 pm7 cd7 ct7 oc8 kV8 dc8 pm8 cd8 ct8 oc9 kV9 dc9 pm9 cd9 ct9 oc10 kV10 dc10 pm10 cd10 ct10 oc11 kV11 dc11 pm11 cd11 ct11 oc12 kV12 dc12 pm12 cd12 ct12 oc13 kV13 dc13 pm13 cd13 ct13 oc14 kV14 dc14 pm14 cd14 ct14 oc15 kV15 dc15 pm15 cd15 ct15 oc16 kV16 dc16 pm16 cd16 ct16 oc17 kV17 dc17 pm17 cd17 ct17 oc18 kV18 dc18 pm18 cd18 ct18 oc19 kV19 dc19 pm19 cd19 ct19 oc20 kV20 dc20 pm20 cd20 ct20 oc21 kV21 dc21 pm21 cd21 ct21 oc22 kV22 dc22 pm22 cd22 ct22 oc23 kV23 dc23 pm23 cd23 ct23 oc24 kV24 dc24 pm24 cd24 ct24 oc25 kV25 dc25 pm25 cd25 ct25 : Value} {t_MOST_ROWS t_MOST_THINGS t_MOST_TIMES : Tok}
    (aC0 : PySem.W.nsIn K mainGlobals "Ballots" = some (some (.ref C0)))
    (a0 : PySem.W.nsIn K mainGlobals "_law_hand" = some (some (.ref f0)))
    (l0 : K.lookup f0 = some ⟨oc0, od0, .func (PySem.W.fnOf "_law_hand" "_law_hand" (defArgs s_L_hand) (defBody s_L_hand) (defScope s_L_hand) .none kV0 dc0 pm0 an0 cd0 ct0), sl0⟩)
    (c0 : PySem.W.codeIn K cd0 "_law_hand" = true)
    (k0 : PySem.W.keepIn K (.ref f0) = true)
    (a1 : PySem.W.nsIn K mainGlobals "is_integer" = some (some (.ref f1)))
    (l1 : K.lookup f1 = some ⟨oc1, od1, .func (PySem.W.fnOf "is_integer" "is_integer" (defArgs s_is_integer) (defBody s_is_integer) (defScope s_is_integer) .none kV1 dc1 pm1 an1 cd1 ct1), sl1⟩)
    (c1 : PySem.W.codeIn K cd1 "is_integer" = true)
    (k1 : PySem.W.keepIn K (.ref f1) = true)
    (a2 : PySem.W.nsIn K mainGlobals "is_within" = some (some (.ref f2)))
    (l2 : K.lookup f2 = some ⟨oc2, od2, .func (PySem.W.fnOf "is_within" "is_within" (defArgs s_is_within) (defBody s_is_within) (defScope s_is_within) .none kV2 dc2 pm2 an2 cd2 ct2), sl2⟩)
    (c2 : PySem.W.codeIn K cd2 "is_within" = true)
    (k2 : PySem.W.keepIn K (.ref f2) = true)
    (a3 : PySem.W.nsIn K mainGlobals "is_sized" = some (some (.ref f3)))
    (l3 : K.lookup f3 = some ⟨oc3, od3, .func (PySem.W.fnOf "is_sized" "is_sized" (defArgs s_is_sized) (defBody s_is_sized) (defScope s_is_sized) .none kV3 dc3 pm3 an3 cd3 ct3), sl3⟩)
    (c3 : PySem.W.codeIn K cd3 "is_sized" = true)
    (k3 : PySem.W.keepIn K (.ref f3) = true)
    (a4 : PySem.W.nsIn K mainGlobals "is_tuple" = some (some (.ref f4)))
    (l4 : K.lookup f4 = some ⟨oc4, od4, .func (PySem.W.fnOf "is_tuple" "is_tuple" (defArgs s_is_tuple) (defBody s_is_tuple) (defScope s_is_tuple) .none kV4 dc4 pm4 an4 cd4 ct4), sl4⟩)
    (c4 : PySem.W.codeIn K cd4 "is_tuple" = true)
    (k4 : PySem.W.keepIn K (.ref f4) = true)
    (a5 : PySem.W.nsIn K mainGlobals "is_order" = some (some (.ref f5)))
    (l5 : K.lookup f5 = some ⟨oc5, od5, .func (PySem.W.fnOf "is_order" "is_order" (defArgs s_is_order) (defBody s_is_order) (defScope s_is_order) .none kV5 dc5 pm5 an5 cd5 ct5), sl5⟩)
    (c5 : PySem.W.codeIn K cd5 "is_order" = true)
    (k5 : PySem.W.keepIn K (.ref f5) = true)
    (a6 : PySem.W.findIn K (.ref C0) "__init__" = some (some (.ref f6)))
    (i6 : PySem.W.isFn K (.ref f6) = true)
    (l6 : K.lookup f6 = some ⟨oc6, od6, .func (PySem.W.fnOf "__init__" "Ballots.__init__" (defArgs s_Ballots___init__) (defBody s_Ballots___init__) (defScope s_Ballots___init__) .none kV6 dc6 pm6 an6 cd6 ct6), sl6⟩)
    (c6 : PySem.W.codeIn K cd6 "Ballots.__init__" = true)
    (k6 : PySem.W.keepIn K (.ref f6) = true)
    (a7 : PySem.W.nsIn K mainGlobals "for_one" = some (some (.ref f7)))
    (l7 : K.lookup f7 = some ⟨oc7, od7, .func (PySem.W.fnOf "for_one" "for_one" (defArgs s_for_one) (defBody s_for_one) (defScope s_for_one) .none kV7 dc7 pm7 an7 cd7 ct7), sl7⟩)
    (c7 : PySem.W.codeIn K cd7 "for_one" = true)
    (k7 : PySem.W.keepIn K (.ref f7) = true)
    (a8 : PySem.W.nsIn K mainGlobals "widest" = some (some (.ref f8)))
    (l8 : K.lookup f8 = some ⟨oc8, od8, .func (PySem.W.fnOf "widest" "widest" (defArgs s_widest) (defBody s_widest) (defScope s_widest) .none kV8 dc8 pm8 an8 cd8 ct8), sl8⟩)
    (c8 : PySem.W.codeIn K cd8 "widest" = true)
    (k8 : PySem.W.keepIn K (.ref f8) = true)
    (a9 : PySem.W.nsIn K mainGlobals "_law_draw" = some (some (.ref f9)))
    (l9 : K.lookup f9 = some ⟨oc9, od9, .func (PySem.W.fnOf "_law_draw" "_law_draw" (defArgs s_L_draw) (defBody s_L_draw) (defScope s_L_draw) .none kV9 dc9 pm9 an9 cd9 ct9), sl9⟩)
    (c9 : PySem.W.codeIn K cd9 "_law_draw" = true)
    (k9 : PySem.W.keepIn K (.ref f9) = true)
    (a10 : PySem.W.nsIn K mainGlobals "_law_mixed" = some (some (.ref f10)))
    (l10 : K.lookup f10 = some ⟨oc10, od10, .func (PySem.W.fnOf "_law_mixed" "_law_mixed" (defArgs s_L_mixed) (defBody s_L_mixed) (defScope s_L_mixed) .none kV10 dc10 pm10 an10 cd10 ct10), sl10⟩)
    (c10 : PySem.W.codeIn K cd10 "_law_mixed" = true)
    (k10 : PySem.W.keepIn K (.ref f10) = true)
    (a11 : PySem.W.nsIn K mainGlobals "_law_some" = some (some (.ref f11)))
    (l11 : K.lookup f11 = some ⟨oc11, od11, .func (PySem.W.fnOf "_law_some" "_law_some" (defArgs s_L_some) (defBody s_L_some) (defScope s_L_some) .none kV11 dc11 pm11 an11 cd11 ct11), sl11⟩)
    (c11 : PySem.W.codeIn K cd11 "_law_some" = true)
    (k11 : PySem.W.keepIn K (.ref f11) = true)
    (a12 : PySem.W.nsIn K mainGlobals "_law_ballots" = some (some (.ref f12)))
    (l12 : K.lookup f12 = some ⟨oc12, od12, .func (PySem.W.fnOf "_law_ballots" "_law_ballots" (defArgs s_L_ballots) (defBody s_L_ballots) (defScope s_L_ballots) .none kV12 dc12 pm12 an12 cd12 ct12), sl12⟩)
    (c12 : PySem.W.codeIn K cd12 "_law_ballots" = true)
    (k12 : PySem.W.keepIn K (.ref f12) = true)
    (a13 : PySem.W.nsIn K mainGlobals "margin_rows" = some (some (.ref f13)))
    (l13 : K.lookup f13 = some ⟨oc13, od13, .func (PySem.W.fnOf "margin_rows" "margin_rows" (defArgs s_margin_rows) (defBody s_margin_rows) (defScope s_margin_rows) .none kV13 dc13 pm13 an13 cd13 ct13), sl13⟩)
    (c13 : PySem.W.codeIn K cd13 "margin_rows" = true)
    (k13 : PySem.W.keepIn K (.ref f13) = true)
    (a14 : PySem.W.nsIn K mainGlobals "beater_of" = some (some (.ref f14)))
    (l14 : K.lookup f14 = some ⟨oc14, od14, .func (PySem.W.fnOf "beater_of" "beater_of" (defArgs s_beater_of) (defBody s_beater_of) (defScope s_beater_of) .none kV14 dc14 pm14 an14 cd14 ct14), sl14⟩)
    (c14 : PySem.W.codeIn K cd14 "beater_of" = true)
    (k14 : PySem.W.keepIn K (.ref f14) = true)
    (a15 : PySem.W.nsIn K mainGlobals "beater" = some (some (.ref f15)))
    (l15 : K.lookup f15 = some ⟨oc15, od15, .func (PySem.W.fnOf "beater" "beater" (defArgs s_beater) (defBody s_beater) (defScope s_beater) .none kV15 dc15 pm15 an15 cd15 ct15), sl15⟩)
    (c15 : PySem.W.codeIn K cd15 "beater" = true)
    (k15 : PySem.W.keepIn K (.ref f15) = true)
    (a16 : PySem.W.nsIn K mainGlobals "_law_called" = some (some (.ref f16)))
    (l16 : K.lookup f16 = some ⟨oc16, od16, .func (PySem.W.fnOf "_law_called" "_law_called" (defArgs s_L_called) (defBody s_L_called) (defScope s_L_called) .none kV16 dc16 pm16 an16 cd16 ct16), sl16⟩)
    (c16 : PySem.W.codeIn K cd16 "_law_called" = true)
    (k16 : PySem.W.keepIn K (.ref f16) = true)
    (a17 : PySem.W.nsIn K mainGlobals "_law_is" = some (some (.ref f17)))
    (l17 : K.lookup f17 = some ⟨oc17, od17, .func (PySem.W.fnOf "_law_is" "_law_is" (defArgs s_L_is) (defBody s_L_is) (defScope s_L_is) .none kV17 dc17 pm17 an17 cd17 ct17), sl17⟩)
    (c17 : PySem.W.codeIn K cd17 "_law_is" = true)
    (k17 : PySem.W.keepIn K (.ref f17) = true)
    (a18 : PySem.W.nsIn K mainGlobals "_law_over" = some (some (.ref f18)))
    (l18 : K.lookup f18 = some ⟨oc18, od18, .func (PySem.W.fnOf "_law_over" "_law_over" (defArgs s_L_over) (defBody s_L_over) (defScope s_L_over) .none kV18 dc18 pm18 an18 cd18 ct18), sl18⟩)
    (c18 : PySem.W.codeIn K cd18 "_law_over" = true)
    (k18 : PySem.W.keepIn K (.ref f18) = true)
    (a19 : PySem.W.nsIn K mainGlobals "_law_margins" = some (some (.ref f19)))
    (l19 : K.lookup f19 = some ⟨oc19, od19, .func (PySem.W.fnOf "_law_margins" "_law_margins" (defArgs s_L_margins) (defBody s_L_margins) (defScope s_L_margins) .none kV19 dc19 pm19 an19 cd19 ct19), sl19⟩)
    (c19 : PySem.W.codeIn K cd19 "_law_margins" = true)
    (k19 : PySem.W.keepIn K (.ref f19) = true)
    (a20 : PySem.W.nsIn K mainGlobals "_law_width" = some (some (.ref f20)))
    (l20 : K.lookup f20 = some ⟨oc20, od20, .func (PySem.W.fnOf "_law_width" "_law_width" (defArgs s_L_width) (defBody s_L_width) (defScope s_L_width) .none kV20 dc20 pm20 an20 cd20 ct20), sl20⟩)
    (c20 : PySem.W.codeIn K cd20 "_law_width" = true)
    (k20 : PySem.W.keepIn K (.ref f20) = true)
    (a21 : PySem.W.nsIn K mainGlobals "margins" = some (some (.ref f21)))
    (l21 : K.lookup f21 = some ⟨oc21, od21, .func (PySem.W.fnOf "margins" "margins" (defArgs s_margins) (defBody s_margins) (defScope s_margins) .none kV21 dc21 pm21 an21 cd21 ct21), sl21⟩)
    (c21 : PySem.W.codeIn K cd21 "margins" = true)
    (k21 : PySem.W.keepIn K (.ref f21) = true)
    (a22 : PySem.W.nsIn K mainGlobals "closed_from" = some (some (.ref f22)))
    (l22 : K.lookup f22 = some ⟨oc22, od22, .func (PySem.W.fnOf "closed_from" "closed_from" (defArgs s_closed_from) (defBody s_closed_from) (defScope s_closed_from) .none kV22 dc22 pm22 an22 cd22 ct22), sl22⟩)
    (c22 : PySem.W.codeIn K cd22 "closed_from" = true)
    (k22 : PySem.W.keepIn K (.ref f22) = true)
    (a23 : PySem.W.nsIn K mainGlobals "smith" = some (some (.ref f23)))
    (l23 : K.lookup f23 = some ⟨oc23, od23, .func (PySem.W.fnOf "smith" "smith" (defArgs s_smith) (defBody s_smith) (defScope s_smith) .none kV23 dc23 pm23 an23 cd23 ct23), sl23⟩)
    (c23 : PySem.W.codeIn K cd23 "smith" = true)
    (k23 : PySem.W.keepIn K (.ref f23) = true)
    (a24 : PySem.W.nsIn K mainGlobals "_law_is_right" = some (some (.ref f24)))
    (l24 : K.lookup f24 = some ⟨oc24, od24, .func (PySem.W.fnOf "_law_is_right" "_law_is_right" (defArgs s_L_is_right) (defBody s_L_is_right) (defScope s_L_is_right) .none kV24 dc24 pm24 an24 cd24 ct24), sl24⟩)
    (c24 : PySem.W.codeIn K cd24 "_law_is_right" = true)
    (k24 : PySem.W.keepIn K (.ref f24) = true)
    (a25 : PySem.W.nsIn K mainGlobals "law" = some (some (.ref f25)))
    (l25 : K.lookup f25 = some ⟨oc25, od25, .func (PySem.W.fnOf "law" "law" (defArgs s_law) (defBody s_law) (defScope s_law) .none kV25 dc25 pm25 an25 cd25 ct25), sl25⟩)
    (c25 : PySem.W.codeIn K cd25 "law" = true)
    (k25 : PySem.W.keepIn K (.ref f25) = true)
    (pg0 : PySem.W.plainGet K C0 Str.empty = true)
    (hd0 : PySem.W.hasDictIn K C0 = true)
    (po0 : PySem.W.plainOver K C0 = true)
    (sa0 : PySem.W.findIn K (.ref C0) "__setattr__" = some (some (.builtin "object.__setattr__")))
    (mk0 : PySem.W.makesIn K C0 = true)
    (kc0 : PySem.W.keepIn K (.ref C0) = true)
    (n0_many : PySem.W.findIn K (.ref C0) "many" = some none)
    (n0_rows : PySem.W.findIn K (.ref C0) "rows" = some none)
    (z_abs : PySem.W.nsIn K mainGlobals "abs" = some none)
    (z_all : PySem.W.nsIn K mainGlobals "all" = some none)
    (z_bool : PySem.W.nsIn K mainGlobals "bool" = some none)
    (z_int : PySem.W.nsIn K mainGlobals "int" = some none)
    (z_isinstance : PySem.W.nsIn K mainGlobals "isinstance" = some none)
    (z_len : PySem.W.nsIn K mainGlobals "len" = some none)
    (z_list : PySem.W.nsIn K mainGlobals "list" = some none)
    (z_max : PySem.W.nsIn K mainGlobals "max" = some none)
    (z_min : PySem.W.nsIn K mainGlobals "min" = some none)
    (z_range : PySem.W.nsIn K mainGlobals "range" = some none)
    (z_set : PySem.W.nsIn K mainGlobals "set" = some none)
    (z_sorted : PySem.W.nsIn K mainGlobals "sorted" = some none)
    (z_str : PySem.W.nsIn K mainGlobals "str" = some none)
    (z_sum : PySem.W.nsIn K mainGlobals "sum" = some none)
    (z_tuple : PySem.W.nsIn K mainGlobals "tuple" = some none)
    (z_zip : PySem.W.nsIn K mainGlobals "zip" = some none)
    (y_MOST_ROWS : PySem.W.nsIn K mainGlobals "MOST_ROWS" = some (some (.int 12 t_MOST_ROWS)))
    (y_MOST_THINGS : PySem.W.nsIn K mainGlobals "MOST_THINGS" = some (some (.int 5 t_MOST_THINGS)))
    (y_MOST_TIMES : PySem.W.nsIn K mainGlobals "MOST_TIMES" = some (some (.int 99 t_MOST_TIMES))) :
    ∃ fd : FuncData, (∀ (s : Shared) (v : Value), BindsTo s fd ⟨[v], []⟩ [("script", v)]) ∧ ∀ base : Heap, K.In base → base.Ns mainGlobals mg → FnOk l.prog w K mg base CX0 66 fa fd ["script"] (spL K d_law) := by
  have e := hfa.symm.trans (PySem.W.mg_of X G a25)
  cases e
  have T : Tx K mg (sitOf K [C0]) := {
    hK := rfl,
    cl := cls_all ⟨⟨pg0, hd0, po0, sa0⟩, trivial⟩,
    n_many := cls_all ⟨n0_many, trivial⟩,
    n_rows := cls_all ⟨n0_rows, trivial⟩,
    b_abs := PySem.W.mg_none_of X G z_abs,
    b_all := PySem.W.mg_none_of X G z_all,
    b_bool := PySem.W.mg_none_of X G z_bool,
    b_int := PySem.W.mg_none_of X G z_int,
    b_isinstance := PySem.W.mg_none_of X G z_isinstance,
    b_len := PySem.W.mg_none_of X G z_len,
    b_list := PySem.W.mg_none_of X G z_list,
    b_max := PySem.W.mg_none_of X G z_max,
    b_min := PySem.W.mg_none_of X G z_min,
    b_range := PySem.W.mg_none_of X G z_range,
    b_set := PySem.W.mg_none_of X G z_set,
    b_sorted := PySem.W.mg_none_of X G z_sorted,
    b_str := PySem.W.mg_none_of X G z_str,
    b_sum := PySem.W.mg_none_of X G z_sum,
    b_tuple := PySem.W.mg_none_of X G z_tuple,
    b_zip := PySem.W.mg_none_of X G z_zip,
    c_MOST_ROWS := ⟨_, PySem.W.mg_of X G y_MOST_ROWS⟩,
    c_MOST_THINGS := ⟨_, PySem.W.mg_of X G y_MOST_THINGS⟩,
    c_MOST_TIMES := ⟨_, PySem.W.mg_of X G y_MOST_TIMES⟩ }
  have F0 := fun_mk (st := s_L_hand) l0 c0 k0
  have b0 := F0.binds (ps := ["script"]) fun _ _ _ _ _ _ us hl => match us, hl with | [_], _ => rfl
  have F1 := fun_mk (st := s_is_integer) l1 c1 k1
  have b1 := F1.binds (ps := ["thing"]) fun _ _ _ _ _ _ us hl => match us, hl with | [_], _ => rfl
  have F2 := fun_mk (st := s_is_within) l2 c2 k2
  have b2 := F2.binds (ps := ["thing", "least", "most"]) fun _ _ _ _ _ _ us hl => match us, hl with | [_, _, _], _ => rfl
  have F3 := fun_mk (st := s_is_sized) l3 c3 k3
  have b3 := F3.binds (ps := ["thing", "least", "most"]) fun _ _ _ _ _ _ us hl => match us, hl with | [_, _, _], _ => rfl
  have F4 := fun_mk (st := s_is_tuple) l4 c4 k4
  have b4 := F4.binds (ps := ["thing", "size"]) fun _ _ _ _ _ _ us hl => match us, hl with | [_, _], _ => rfl
  have F5 := fun_mk (st := s_is_order) l5 c5 k5
  have b5 := F5.binds (ps := ["thing", "many"]) fun _ _ _ _ _ _ us hl => match us, hl with | [_, _], _ => rfl
  have F6 := fun_mk (st := s_Ballots___init__) l6 c6 k6
  have b6 := F6.binds (ps := ["self", "many", "rows"]) fun _ _ _ _ _ _ us hl => match us, hl with | [_, _, _], _ => rfl
  have F7 := fun_mk (st := s_for_one) l7 c7 k7
  have b7 := F7.binds (ps := ["rows", "one", "other"]) fun _ _ _ _ _ _ us hl => match us, hl with | [_, _, _], _ => rfl
  have F8 := fun_mk (st := s_widest) l8 c8 k8
  have b8 := F8.binds (ps := ["ballots"]) fun _ _ _ _ _ _ us hl => match us, hl with | [_], _ => rfl
  have F9 := fun_mk (st := s_L_draw) l9 c9 k9
  have b9 := F9.binds (ps := ["hand", "limit"]) fun _ _ _ _ _ _ us hl => match us, hl with | [_, _], _ => rfl
  have F10 := fun_mk (st := s_L_mixed) l10 c10 k10
  have b10 := F10.binds (ps := ["hand", "things"]) fun _ _ _ _ _ _ us hl => match us, hl with | [_, _], _ => rfl
  have F11 := fun_mk (st := s_L_some) l11 c11 k11
  have b11 := F11.binds (ps := ["hand", "items"]) fun _ _ _ _ _ _ us hl => match us, hl with | [_, _], _ => rfl
  have F12 := fun_mk (st := s_L_ballots) l12 c12 k12
  have b12 := F12.binds (ps := ["hand", "most"]) fun _ _ _ _ _ _ us hl => match us, hl with | [_, _], _ => rfl
  have F13 := fun_mk (st := s_margin_rows) l13 c13 k13
  have b13 := F13.binds (ps := ["rows", "many"]) fun _ _ _ _ _ _ us hl => match us, hl with | [_, _], _ => rfl
  have F14 := fun_mk (st := s_beater_of) l14 c14 k14
  have b14 := F14.binds (ps := ["rows", "many"]) fun _ _ _ _ _ _ us hl => match us, hl with | [_, _], _ => rfl
  have F15 := fun_mk (st := s_beater) l15 c15 k15
  have b15 := F15.binds (ps := ["ballots"]) fun _ _ _ _ _ _ us hl => match us, hl with | [_], _ => rfl
  have F16 := fun_mk (st := s_L_called) l16 c16 k16
  have b16 := F16.binds (ps := ["hand", "many", "rows"]) fun _ _ _ _ _ _ us hl => match us, hl with | [_, _, _], _ => rfl
  have F17 := fun_mk (st := s_L_is) l17 c17 k17
  have b17 := F17.binds (ps := ["thing", "due"]) fun _ _ _ _ _ _ us hl => match us, hl with | [_, _], _ => rfl
  have F18 := fun_mk (st := s_L_over) l18 c18 k18
  have b18 := F18.binds (ps := ["rows", "one", "other"]) fun _ _ _ _ _ _ us hl => match us, hl with | [_, _, _], _ => rfl
  have F19 := fun_mk (st := s_L_margins) l19 c19 k19
  have b19 := F19.binds (ps := ["many", "rows"]) fun _ _ _ _ _ _ us hl => match us, hl with | [_, _], _ => rfl
  have F20 := fun_mk (st := s_L_width) l20 c20 k20
  have b20 := F20.binds (ps := ["many", "rows", "begin", "end"]) fun _ _ _ _ _ _ us hl => match us, hl with | [_, _, _, _], _ => rfl
  have F21 := fun_mk (st := s_margins) l21 c21 k21
  have b21 := F21.binds (ps := ["ballots"]) fun _ _ _ _ _ _ us hl => match us, hl with | [_], _ => rfl
  have F22 := fun_mk (st := s_closed_from) l22 c22 k22
  have b22 := F22.binds (ps := ["table", "start"]) fun _ _ _ _ _ _ us hl => match us, hl with | [_, _], _ => rfl
  have F23 := fun_mk (st := s_smith) l23 c23 k23
  have b23 := F23.binds (ps := ["ballots"]) fun _ _ _ _ _ _ us hl => match us, hl with | [_], _ => rfl
  have F24 := fun_mk (st := s_L_is_right) l24 c24 k24
  have b24 := F24.binds (ps := ["hand"]) fun _ _ _ _ _ _ us hl => match us, hl with | [_], _ => rfl
  have F25 := fun_mk (st := s_law) l25 c25 k25
  have b25 := F25.binds (ps := ["script"]) fun _ _ _ _ _ _ us hl => match us, hl with | [_], _ => rfl
  refine ⟨PySem.W.fnOf "law" "law" (defArgs s_law) (defBody s_law) (defScope s_law) .none kV25 dc25 pm25 an25 cd25 ct25, fun s v => .of_eq rfl, fun base _ _ => ?_⟩
  have h_L_hand := ok_L_hand (P := l.prog) (w0 := w) (base := base) T ⟨f0, _, F0, PySem.W.mg_of X G a0, b0⟩
  have h_is_integer := ok_is_integer (P := l.prog) (w0 := w) (base := base) T ⟨f1, _, F1, PySem.W.mg_of X G a1, b1⟩
  have h_is_within := ok_is_within (P := l.prog) (w0 := w) (base := base) T ⟨f2, _, F2, PySem.W.mg_of X G a2, b2⟩ h_is_integer
  have h_is_sized := ok_is_sized (P := l.prog) (w0 := w) (base := base) T ⟨f3, _, F3, PySem.W.mg_of X G a3, b3⟩
  have h_is_tuple := ok_is_tuple (P := l.prog) (w0 := w) (base := base) T ⟨f4, _, F4, PySem.W.mg_of X G a4, b4⟩
  have h_is_order := ok_is_order (P := l.prog) (w0 := w) (base := base) T ⟨f5, _, F5, PySem.W.mg_of X G a5, b5⟩ h_is_tuple h_is_within
  have h_Ballots___init__ := ok_Ballots___init__ (P := l.prog) (w0 := w) (base := base) T ⟨C0, f6, _, F6, PySem.W.mg_of X G aC0, ⟨mk0, a6, i6, kc0⟩, rfl, b6⟩ h_is_order h_is_sized h_is_tuple h_is_within
  have h_for_one := ok_for_one (P := l.prog) (w0 := w) (base := base) T ⟨f7, _, F7, PySem.W.mg_of X G a7, b7⟩
  have h_widest := ok_widest (P := l.prog) (w0 := w) (base := base) T ⟨f8, _, F8, PySem.W.mg_of X G a8, b8⟩ h_for_one
  have h_L_draw := ok_L_draw (P := l.prog) (w0 := w) (base := base) T ⟨f9, _, F9, PySem.W.mg_of X G a9, b9⟩
  have h_L_mixed := ok_L_mixed (P := l.prog) (w0 := w) (base := base) T ⟨f10, _, F10, PySem.W.mg_of X G a10, b10⟩ h_L_draw
  have h_L_some := ok_L_some (P := l.prog) (w0 := w) (base := base) T ⟨f11, _, F11, PySem.W.mg_of X G a11, b11⟩ h_L_draw
  have h_L_ballots := ok_L_ballots (P := l.prog) (w0 := w) (base := base) T ⟨f12, _, F12, PySem.W.mg_of X G a12, b12⟩ h_L_draw h_L_mixed h_L_some
  have h_margin_rows := ok_margin_rows (P := l.prog) (w0 := w) (base := base) T ⟨f13, _, F13, PySem.W.mg_of X G a13, b13⟩ h_for_one
  have h_beater_of := ok_beater_of (P := l.prog) (w0 := w) (base := base) T ⟨f14, _, F14, PySem.W.mg_of X G a14, b14⟩ h_margin_rows
  have h_beater := ok_beater (P := l.prog) (w0 := w) (base := base) T ⟨f15, _, F15, PySem.W.mg_of X G a15, b15⟩ h_beater_of
  have h_L_called := ok_L_called (P := l.prog) (w0 := w) (base := base) T ⟨f16, _, F16, PySem.W.mg_of X G a16, b16⟩ h_L_mixed
  have h_L_is := ok_L_is (P := l.prog) (w0 := w) (base := base) T ⟨f17, _, F17, PySem.W.mg_of X G a17, b17⟩ f_L_is
  have h_L_over := ok_L_over (P := l.prog) (w0 := w) (base := base) T ⟨f18, _, F18, PySem.W.mg_of X G a18, b18⟩
  have h_L_margins := ok_L_margins (P := l.prog) (w0 := w) (base := base) T ⟨f19, _, F19, PySem.W.mg_of X G a19, b19⟩ h_L_over
  have h_L_width := ok_L_width (P := l.prog) (w0 := w) (base := base) T ⟨f20, _, F20, PySem.W.mg_of X G a20, b20⟩ h_L_margins h_L_over
  have h_margins := ok_margins (P := l.prog) (w0 := w) (base := base) T ⟨f21, _, F21, PySem.W.mg_of X G a21, b21⟩ h_margin_rows
  have h_closed_from := ok_closed_from (P := l.prog) (w0 := w) (base := base) T ⟨f22, _, F22, PySem.W.mg_of X G a22, b22⟩
  have h_smith := ok_smith (P := l.prog) (w0 := w) (base := base) T ⟨f23, _, F23, PySem.W.mg_of X G a23, b23⟩ h_closed_from h_margins
  have h_L_is_right := ok_L_is_right (P := l.prog) (w0 := w) (base := base) T ⟨f24, _, F24, PySem.W.mg_of X G a24, b24⟩ h_Ballots___init__ h_L_ballots h_L_called h_L_is h_L_width h_beater h_smith h_widest
  exact FnOk.imp (ok_law T F25 h_Ballots___init__ h_L_hand h_L_is_right h_widest) (spL_of K [C0] d_law)
end K53

set_option Elab.async false
set_option linter.all false
set_option maxRecDepth 100000
namespace K53
open PySem PySem.Spec PyProof.Rows L2 Mini
structure Hand where
  cells : List Int
  i : Nat
  j : Int
  s : Int
  c : Int
def Hand.L (h : Hand) : List D := [.lst (h.cells.map D.int), .int (h.i : Nat), .int h.j, .int h.s, .int h.c]
def Hand.step (h : Hand) : Hand := if h.j = 0 ∧ h.i < h.cells.length then
    (let cell := h.cells.getD h.i 0
     ⟨h.cells, h.i + 1, if cell ≥ 10 ^ 18 then cell else h.j, (h.s * 69621 + cell + 257).fmod 2147483629, h.c⟩) else h
def Hand.num (h : Hand) : Int :=
  let a := ((h.s + 7919 * (h.c + 1)) * 48271).fmod 2147483647
  let b := (a * (a.fdiv 1009 + 69621)).fmod 2147483647
  let c := (b * (b.fdiv 2003 + 40692)).fmod 2147483399
  c.fdiv 16
def Hand.res (h : Hand) (n : Int) : Int × Hand :=
  let g := h.step
  if g.j > 0 then (g.j.fmod n, { g with j := g.j.fdiv n }) else (g.num.fmod n, { g with c := g.c + 1 })
def drawR (h : Hand) (n : Int) : Int := (h.res n).1
def drawH (h : Hand) (n : Int) : Hand := (h.res n).2
theorem drawR_ge (h : Hand) (n : Int) (hn : 0 < n) : 0 ≤ drawR h n := by
  unfold drawR Hand.res
  simp only
  split
  · exact Int.fmod_nonneg_of_pos _ hn
  · exact Int.fmod_nonneg_of_pos _ hn
theorem drawR_lt (h : Hand) (n : Int) (hn : 0 < n) : drawR h n < n := by
  unfold drawR Hand.res
  simp only
  split
  · exact Int.fmod_lt_of_pos _ hn
  · exact Int.fmod_lt_of_pos _ hn
theorem small_mod {a m : Int} (h : 0 < m) (hm : m < 2 ^ 63) : small (a.fmod m) = true := by
  have h1 := Int.fmod_nonneg_of_pos a h
  have h2 := Int.fmod_lt_of_pos a h
  unfold small
  exact decide_eq_true (by omega)
theorem draw_ap (h : Hand) (n : Int) (hn : 0 < n) (hn2 : n < 1073741824) (s : Store) : callV d_L_draw (.lst h.L :: s) [.r 0, .d (.int n)] = some (.d (.int (drawR h n)), .lst (drawH h n).L :: s) := by
  have e1 : n ≠ 0 := by omega
  have e2 : n.natAbs < 1073741824 := by omega
  have sm := fun a => small_mod (a := a) (m := 2147483647) (by decide) (by decide)
  have s1 : small 69621 = true := by decide
  have s2 : small 7919 = true := by decide
  have s3 : small 48271 = true := by decide
  refine callV_of ?_ rfl
  unfold d_L_draw b_L_draw drawR drawH Hand.res Hand.step Hand.num
  by_cases c1 : h.j = 0
  · by_cases c2 : h.i < h.cells.length
    · by_cases c3 : 1000000000000000000 ≤ h.cells[h.i]
      · have c4 : 0 < h.cells[h.i] := by omega
        simp [Hand.L, c1, c2, c3, c4, atI, ixN, e1, e2, sm, s1, s2, s3]
      · simp [Hand.L, c1, c2, c3, atI, ixN, e1, e2, sm, s1, s2, s3]
    · simp [Hand.L, c1, c2, atI, ixN, e1, e2, sm, s1, s2, s3]
  · by_cases c4 : 0 < h.j
    · simp [Hand.L, c1, c4, atI, ixN, e1, e2, sm, s1, s2, s3]
    · simp [Hand.L, c1, c4, atI, ixN, e1, e2, sm, s1, s2, s3]
/-! ### the small defs -/
theorem is_integer_int (st : Store) (i : Int) : callV d_is_integer st [.d (.int i)] = some (.d (.bl true), st) := by
  refine callV_same ?_
  unfold d_is_integer b_is_integer
  simp
theorem is_within_int (st : Store) (i a b : Int) : callV d_is_within st [.d (.int i), .d (.int a), .d (.int b)] = some (.d (.bl (decide (a ≤ i ∧ i ≤ b))), st) := by
  refine callV_same ?_
  unfold d_is_within b_is_within
  by_cases h : a ≤ i <;> by_cases h2 : i ≤ b <;> simp [is_integer_int, h, h2]
theorem is_sized_tup (st : Store) (ds : List D) (a b : Int) : callV d_is_sized st [.d (.tup ds), .d (.int a), .d (.int b)] = some (.d (.bl (decide (a ≤ ds.length ∧ ds.length ≤ b))), st) := by
  refine callV_same ?_
  unfold d_is_sized b_is_sized
  by_cases h : a ≤ ds.length <;> by_cases h2 : ds.length ≤ b <;> simp [h, h2]
theorem is_tuple_tup (st : Store) (ds : List D) (a : Int) : callV d_is_tuple st [.d (.tup ds), .d (.int a)] = some (.d (.bl (decide ((ds.length : Int) = a))), st) := by
  refine callV_same ?_
  unfold d_is_tuple b_is_tuple
  simp
/-! ### orders, ballots -/
def nD (k : Nat) : D := .int (k : Nat)
def ordD (o : List Nat) : D := .tup (o.map nD)
def rowD (r : Nat × List Nat) : D := .tup [.int (r.1 : Nat), ordD r.2]
def rowsD (rs : List (Nat × List Nat)) : D := .tup (rs.map rowD)
@[simp] theorem lenV1_ord (st : Store) (o : List Nat) : lenV1 st (.d (ordD o)) = some (.d (.int (o.length : Nat))) := by
  unfold ordD
  simp
theorem ints_nD (o : List Nat) : intsOf (o.map nD) = some (o.map fun k => ((k : Nat) : Int)) := intsOf_of (fun (k : Nat) => (k : Int)) o
/-- ballots over the things 0 .. n-1 -/
structure RowsOk (n : Nat) (rs : List (Nat × List Nat)) : Prop where
  perm : ∀ r ∈ rs, r.2.Perm (List.range n)
  tm : ∀ r ∈ rs, 1 ≤ r.1 ∧ r.1 ≤ 99
  one : 1 ≤ rs.length
  most : rs.length ≤ 12
theorem RowsOk.mem {n : Nat} {rs : List (Nat × List Nat)} (h : RowsOk n rs) {r : Nat × List Nat} (hr : r ∈ rs) {a : Nat} : a ∈ r.2 ↔ a < n := by
  rw [(h.perm r hr).mem_iff, List.mem_range]
theorem nodup_of_perm_range {o : List Nat} {n : Nat} (h : o.Perm (List.range n)) : o.Nodup := h.nodup_iff.mpr List.nodup_range
theorem is_order_ok (st : Store) {o : List Nat} {n : Nat} (hn : n ≤ 900) (h : o.Perm (List.range n)) : callV d_is_order st [.d (ordD o), .d (.int (n : Nat))] = some (.d (.bl true), st) := by
  have hl : o.length = n := by rw [h.length_eq, List.length_range]
  refine callV_same ?_
  unfold d_is_order b_is_order ordD
  simp [is_tuple_tup, hl]
  rw [mLc_all o (fun k => .one (nD k)) (fun _ => .bl true)]
  · rw [show (o.map fun _ => D.bl true) = o.map fun a => D.bl ((fun _ => true) a) from rfl]
    simp [blsOf_of, ints_nD, hl, show n < 1000 by omega]
    have nd : (o.map fun k => ((k : Nat) : Int)).Nodup := List.Pairwise.map (fun k => ((k : Nat) : Int)) (fun a b hab => by omega) (nodup_of_perm_range h)
    rw [ddp_id nd]
    simp [hl]
  · simp
  · omega
  · intro a ha
    have : a < n := by rw [h.mem_iff, List.mem_range] at ha; exact ha
    refine ⟨_, by simp [nD]; rfl, ?_⟩
    simp [is_within_int, nD]
    omega
theorem ne_mr : ¬ (("many" : Str) = "rows") := by decide +kernel
@[simp] theorem flat_nD1 (k : Nat) : flat (nD k) = true := rfl
def bookD (n : Nat) (rs : List (Nat × List Nat)) : D := .obj 0 ["many", "rows"] [nD n, rowsD rs]
theorem init_ok (st : Store) {n : Nat} {rs : List (Nat × List Nat)} (hn1 : 1 ≤ n) (hn : n ≤ 5) (h : RowsOk n rs) :
    d_Ballots___init__ (st ++ [.obj 0 [] []]) [.r st.length, .d (nD n), .d (rowsD rs)] = some (.d .non, st ++ [.obj 0 ["many", "rows"] [nD n, rowsD rs]]) := by
  unfold d_Ballots___init__ b_Ballots___init__ rowsD nD
  have h1 := h.one
  have h2 := h.most
  simp [is_within_int, is_sized_tup, show (1 : Int) ≤ n by omega, show (n : Int) ≤ 5 by omega, show (1 : Int) ≤ rs.length by omega, show (rs.length : Int) ≤ 12 by omega]
  rw [mLc_all rs (fun r => .one (rowD r)) (fun _ => .bl true)]
  · rw [show (rs.map fun _ => D.bl true) = rs.map fun a => D.bl ((fun _ => true) a) from rfl]
    simp [blsOf_of, putN, ne_mr]
  · simp
  · omega
  · intro r hr
    have g1 := h.tm r hr
    refine ⟨_, by simp; rfl, ?_⟩
    simp [rowD, is_tuple_tup, atI, ixN, is_within_int, is_order_ok _ (show n ≤ 900 by omega) (h.perm r hr), show (1 : Int) ≤ r.1 by omega, show (r.1 : Int) ≤ 99 by omega]
theorem make_ok {ma : AM} {rho : Rho} {st st' : Store} {n : Nat} {rs : List (Nat × List Nat)} (hm : ma rho st = some ([.d (nD n), .d (rowsD rs)], st')) (hn1 : 1 ≤ n) (hn : n ≤ 5) (h : RowsOk n rs) : mMake 0 3 d_Ballots___init__ ma rho st = some (.d (bookD n rs), st') := by
  unfold mMake
  rw [hm, Option.bind_some]
  simp [init_ok st' hn1 hn h, exit_last]
  rfl
/-! ### how many have one ahead of the other -/
def W (rs : List (Nat × List Nat)) (a b : Nat) : Nat := ((rs.filter fun r => decide (r.2.idxOf a < r.2.idxOf b)).map (·.1)).sum
theorem findF_nD {a : Nat} {o : List Nat} (h : a ∈ o) : findF (.int (a : Nat)) (o.map nD) = some (o.idxOf a) := by
  rw [show o.map nD = (o.map fun k => ((k : Nat) : Int)).map D.int by rw [List.map_map]; rfl, findF_ints, List.findIdx?_map]
  have e : ((fun x : Int => x == (a : Int)) ∘ fun k : Nat => (k : Int)) = (· == a) := by
    funext z
    show ((z : Int) == (a : Int)) = (z == a)
    rw [Bool.eq_iff_iff, beq_iff_eq, beq_iff_eq]
    omega
  rw [e]
  exact List.findIdx?_eq_some_of_exists ⟨a, h, by simp⟩
theorem flat_nD (o : List Nat) : (o.map nD).all flat = true := by
  rw [List.all_map]
  exact List.all_eq_true.mpr fun _ _ => rfl
theorem for_one_ok (st : Store) {n a b : Nat} {rs : List (Nat × List Nat)} (h : RowsOk n rs) (ha : a < n) (hb : b < n) : callV d_for_one st [.d (rowsD rs), .d (.int (a : Nat)), .d (.int (b : Nat))] = some (.d (.int (W rs a b : Nat)), st) := by
  refine callV_same ?_
  unfold d_for_one b_for_one rowsD
  simp
  rw [mLc_of rs (fun r => .one (rowD r)) (fun r => decide (r.2.idxOf a < r.2.idxOf b)) (fun r => .int (r.1 : Nat))]
  · simp [intsOf_of]
    rw [sum_cast (fun r : Nat × List Nat => r.1)]
    rfl
  · simp
  · have := h.most; omega
  · intro r hr
    have m1 := (h.mem hr).mpr ha
    have m2 := (h.mem hr).mpr hb
    refine ⟨_, by simp [rowD]; rfl, ?_, fun _ => by simp⟩
    have f1 : flat (.int (a : Nat)) = true := rfl
    have f2 : flat (.int (b : Nat)) = true := rfl
    simp [ordD, findF_nD m1, findF_nD m2]
end K53

set_option Elab.async false
set_option linter.all false
set_option maxRecDepth 100000
namespace K53
open PySem PySem.Spec PyProof.Rows L2 Mini
section
variable {n : Nat} {rs : List (Nat × List Nat)}
def M (rs : List (Nat × List Nat)) (a b : Nat) : Int := (W rs a b : Nat) - (W rs b a : Nat)
def matD (n : Nat) (f : Nat → Nat → Int) : D := .tup ((List.range n).map fun a => .tup ((List.range n).map fun b => .int (f a b)))
theorem atI_range {α : Type} {n k : Nat} (f : Nat → α) (h : k < n) : atI ((List.range n).map f) (k : Nat) = some (f k) := by
  rw [atI_nat' (by simpa using h)]
  simp
theorem mem_pre {pre post : List Nat} {a n : Nat} (hp : List.range n = pre ++ a :: post) : a < n ∧ pre.length < n := by
  have h1 : a ∈ List.range n := by rw [hp]; simp
  have h2 := congrArg List.length hp
  simp at h1 h2
  exact ⟨h1, by omega⟩
theorem margin_rows_ok (st : Store) (hn : n ≤ 5) (h : RowsOk n rs) : callV d_margin_rows st [.d (rowsD rs), .d (.int (n : Nat))] = some (.d (matD n (M rs)), st) := by
  have hb := rngOf1_nat (n := n) (by omega)
  refine callV_run ?_
  refine Runs.seq (Runs.set (by simp; exact ⟨rfl, rfl⟩) ?_)
  refine Runs.seq (Runs.for_ (List.range n) (fun (k : Nat) => Itm.one (.int (k : Nat))) (fun pre rho s => ∃ x, rho = [some (.d (rowsD rs)), some (.d (.int (n : Nat))), some (.r st.length), x, none] ∧ s = st ++ [.lst (pre.map fun a => .tup ((List.range n).map fun b => .int (M rs a b)))])
    (by simp [hb]) ⟨none, rfl, rfl⟩ ?_ ?_)
  · rintro pre a post rho s hp ⟨x, rfl, rfl⟩
    obtain ⟨ha, hl⟩ := mem_pre hp
    refine ⟨_, by simp; rfl, Runs.drop (x := .d .non) ?_ ⟨.inl rfl, _, rfl, rfl⟩⟩
    · simp
      rw [mLc_all (List.range n) (fun (k : Nat) => Itm.one (.int (k : Nat))) (fun b => .int (M rs a b))]
      · simp
        exact lim_gt (by omega)
      · simp [hb]
      · simp; omega
      · intro b hb
        have hb : b < n := by simpa using hb
        refine ⟨_, by simp; rfl, ?_⟩
        simp [for_one_ok _ h ha hb, for_one_ok _ h hb ha, M]
  · rintro rho s ⟨x, rfl, rfl⟩
    exact Runs.ret (by simp; exact ⟨rfl, rfl⟩) (.v rfl ⟨_, rfl⟩)
theorem mat_ix (st : Store) {f : Nat → Nat → Int} {a : Nat} (ha : a < n) : ixV st (.d (matD n f)) (.d (.int (a : Nat))) = some (.d (.tup ((List.range n).map fun b => .int (f a b)))) := by
  unfold matD
  rw [ixV_tup, atI_range _ ha]
  rfl
theorem row_ix (st : Store) {f : Nat → Int} {b : Nat} (hb : b < n) : ixV st (.d (.tup ((List.range n).map fun b => .int (f b)))) (.d (.int (b : Nat))) = some (.d (.int (f b))) := by
  rw [ixV_tup, atI_range _ hb]
  rfl
def optD : Option Nat → D
  | none => .non
  | some k => nD k
def beaters (n : Nat) (rs : List (Nat × List Nat)) : List Nat := (List.range n).filter fun a => ((List.range n).filter fun b => decide (b ≠ a)).all fun b => decide (M rs a b > 0)
theorem beater_of_ok (st : Store) (hn : n ≤ 5) (h : RowsOk n rs) : callV d_beater_of st [.d (rowsD rs), .d (.int (n : Nat))] = some (.d (optD (beaters n rs).head?), st) := by
  have hb := rngOf1_nat (n := n) (by omega)
  refine callV_run ?_
  refine Runs.seq (Runs.set (by simp [margin_rows_ok _ hn h]; exact ⟨rfl, rfl⟩) ?_)
  refine Runs.seq (Runs.set (x := .d (.lst ((beaters n rs).map fun (a : Nat) => .int (a : Nat)))) (st1 := st) ?_ ?_)
  · rw [mLc_of (List.range n) (fun (k : Nat) => Itm.one (.int (k : Nat))) (fun a => ((List.range n).filter fun b => decide (b ≠ a)).all fun b => decide (M rs a b > 0)) (fun a => .int (a : Nat))]
    · rfl
    · simp [hb]
    · simp; omega
    · intro a ha
      have ha : a < n := by simpa using ha
      refine ⟨_, by simp; rfl, ?_, fun _ => by simp⟩
      simp
      rw [mLc_of (List.range n) (fun (k : Nat) => Itm.one (.int (k : Nat))) (fun b => decide (b ≠ a)) (fun b => .bl (decide (M rs a b > 0)))]
      · simp [blsOf_of]
      · simp [hb]
      · simp; omega
      · intro b hb
        have hb : b < n := by simpa using hb
        refine ⟨_, by simp; rfl, ?_, fun _ => ?_⟩
        · simp
          omega
        · simp [mat_ix _ ha, row_ix _ hb]
  · cases hd : beaters n rs with
    | nil => exact Runs.ret (x := .d .non) (st1 := st) (by simp) .v0
    | cons a l => exact Runs.ret (x := .d (nD a)) (st1 := st) (by simp [atI, ixN]; rfl) .v0
theorem beater_ok (st : Store) (hn : n ≤ 5) (h : RowsOk n rs) : callV d_beater st [.d (bookD n rs)] = some (.d (optD (beaters n rs).head?), st) := by
  refine callV_same ?_
  unfold d_beater b_beater bookD
  have e1 : fldOf ["many", "rows"] [nD n, rowsD rs] "rows" = some (rowsD rs) := rfl
  have e2 : fldOf ["many", "rows"] [nD n, rowsD rs] "many" = some (.int (n : Nat)) := rfl
  simp [e1, e2, beater_of_ok _ hn h]
theorem margins_ok (st : Store) (hn : n ≤ 5) (h : RowsOk n rs) : callV d_margins st [.d (bookD n rs)] = some (.d (matD n (M rs)), st) := by
  refine callV_same ?_
  unfold d_margins b_margins bookD
  have e1 : fldOf ["many", "rows"] [nD n, rowsD rs] "rows" = some (rowsD rs) := rfl
  have e2 : fldOf ["many", "rows"] [nD n, rowsD rs] "many" = some (.int (n : Nat)) := rfl
  simp [e1, e2, margin_rows_ok _ hn h]
end
end K53

set_option Elab.async false
set_option linter.all false
set_option maxRecDepth 100000
namespace K53
open PySem PySem.Spec PyProof.Rows L2 Mini
section
variable {n : Nat} {rs : List (Nat × List Nat)}
/-- a lot that holds with each x of it each y that x does not beat -/
structure Lot (n : Nat) (f : Nat → Nat → Int) (S : List Nat) : Prop where
  ne : S ≠ []
  lt : ∀ x ∈ S, x < n
  nd : S.Nodup
  cl : ∀ x ∈ S, ∀ y, y < n → f x y ≤ 0 → y ∈ S
theorem nodup_len {F : List Nat} (h1 : F.Nodup) (h2 : ∀ x ∈ F, x < n) : F.length ≤ n := by
  have := List.Nodup.length_le_of_subset h1 (l₂ := List.range n) fun x hx => List.mem_range.mpr (h2 x hx)
  simpa using this
theorem sort_nD (F : List Nat) : ∃ S : List Nat, S.Perm F ∧ (sortI (F.map fun k => ((k : Nat) : Int))).map D.int = S.map nD := by
  refine ⟨(sortI (F.map fun k => ((k : Nat) : Int))).map Int.toNat, ?_, ?_⟩
  · have p := (sortI_perm (F.map fun k => ((k : Nat) : Int))).map Int.toNat
    rw [List.map_map] at p
    have e : (Int.toNat ∘ fun k : Nat => (k : Int)) = id := by funext k; simp
    rw [e, List.map_id] at p
    exact p
  · rw [List.map_map]
    refine List.map_congr_left fun x hx => ?_
    have hx := (sortI_perm _).mem_iff.mp hx
    obtain ⟨k, _, rfl⟩ := List.mem_map.mp hx
    simp [nD]
/-- where the search stands -/
structure Cl (n : Nat) (f : Nat → Nat → Int) (F Wt : List Nat) : Prop where
  nd : F.Nodup
  lt : ∀ x ∈ F, x < n
  sub : ∀ x ∈ Wt, x ∈ F
  ne : F ≠ []
  cl : ∀ x ∈ F, x ∈ Wt ∨ ∀ y, y < n → f x y ≤ 0 → y ∈ F
def fK (F : List Nat) : List Key := F.map fun k => Sum.inl ((k : Nat) : Int)
def fV (F : List Nat) : List D := F.map fun _ => D.bl true
theorem keysI_fK (F : List Nat) : keysI (fK F) = some (F.map fun k => ((k : Nat) : Int)) := by
  unfold fK
  rw [show (F.map fun k => (Sum.inl ((k : Nat) : Int) : Key)) = (F.map fun k => ((k : Nat) : Int)).map Sum.inl by rw [List.map_map]; rfl]
  exact keysI_map _
theorem closed_ok (st : Store) {f : Nat → Nat → Int} {s : Nat} (hn : n ≤ 5) (hs : s < n) : ∃ S, callV d_closed_from st [.d (matD n f), .d (.int (s : Nat))] = some (.d (ordD S), st) ∧ Lot n f S := by
  have hb0 := rngOf1_nat (n := n) (by omega)
  have key : ∃ S, Lot n f S ∧ Runs b_closed_from [some (.d (matD n f)), some (.d (.int (s : Nat))), none, none, none, none] st fun fl _ s' => RetOk st.length (ordD S) st fl s' := by
    have main : Runs (whLoop (mB (mOp gtV (mBi (one lenV1) (mCons (mVar 3) mNil)) (mC (.int 0)))) (mSeq (mSet 4 (mMt popT (mVar 3) mNil))
      (mFor (iAs rngOf1 (mCons (mBi (one lenV1) (mCons (mVar 0) mNil)) mNil)) (gNm 5) (mIf (mAndT (mB (mOp ninV2 (mVar 5) (mVar 2))) (mB (mOp leV (mOp ixV (mOp ixV (mVar 0) (mVar 4)) (mVar 5)) (mC (.int 0))))) (mSeq (mSetIx (mVar 2) (mVar 5) (mC (.bl true)))
      (mDrop (mMt appendT (mVar 3) (mCons (mVar 5) mNil)))) mNext))) 100000) [some (.d (matD n f)), some (.d (.int (s : Nat))), some (.r st.length), some (.r (st.length + 1)), none, none] (st ++ [.dic (fK [s]) (fV [s]), .lst ([s].map nD)])
      (fun fl rho s' => fl = .nx ∧ ∃ x y F, rho = [some (.d (matD n f)), some (.d (.int (s : Nat))), some (.r st.length), some (.r (st.length + 1)), x, y] ∧ s' = st ++ [.dic (fK F) (fV F), .lst []] ∧ Cl n f F []) := by
      refine Runs.while_ (fun k rho s' => ∃ x y F Wt, rho = [some (.d (matD n f)), some (.d (.int (s : Nat))), some (.r st.length), some (.r (st.length + 1)), x, y] ∧ s' = st ++ [.dic (fK F) (fV F), .lst (Wt.map nD)] ∧ Cl n f F Wt ∧ 2 * F.length + k = 2 * n + Wt.length ∧ k ≤ 2 * n)
        (2 * n - 1) ⟨none, none, [s], [s], rfl, rfl, ⟨by simp, by simpa using hs, by simp, by simp, by simp⟩, by simp; omega, by omega⟩ (by omega) ?_
      rintro k rho s' ⟨x, y, F, Wt, rfl, rfl, C, hk, hk2⟩
      have g1 : (st ++ [Cell.dic (fK F) (fV F), .lst (Wt.map nD)])[st.length + 1]? = some (.lst (Wt.map nD)) := by simp
      refine ⟨_, _, by simp [g1]; exact ⟨rfl, rfl⟩, fun hb => ?_, fun hb => ?_⟩
      · have : Wt = [] := by
          cases Wt with
          | nil => rfl
          | cons a l => simp at hb <;> omega
        subst this
        exact ⟨rfl, x, y, F, rfl, rfl, C⟩
      · obtain ⟨Wt, w, rfl⟩ : ∃ l w, Wt = l ++ [w] := by
          rcases List.eq_nil_or_concat Wt with h | ⟨l, w, h⟩
          · subst h; simp at hb
          · exact ⟨l, w, by simpa using h⟩
        have hwF : w ∈ F := C.sub w (by simp)
        have hw : w < n := C.lt w hwF
        have hFn := nodup_len C.nd C.lt
        simp only [List.length_append, List.length_singleton] at hk
        refine Runs.seq (Runs.set (x := .d (nD w)) (st1 := st ++ [.dic (fK F) (fV F), .lst (Wt.map nD)]) (by simp) ?_)
        have hl : rngOf1 [.d (.int (((List.range n).map fun a => D.tup ((List.range n).map fun b => .int (f a b))).length : Nat))] = some ((List.range n).map fun (k : Nat) => Itm.one (.int (k : Nat))) := by
          rw [List.length_map, List.length_range]; exact hb0
        refine Runs.forN (n := n) (fun j rho s' => ∃ y F' Wt' k', rho = [some (.d (matD n f)), some (.d (.int (s : Nat))), some (.r st.length), some (.r (st.length + 1)), some (.d (nD w)), y] ∧ s' = st ++ [.dic (fK F') (fV F'), .lst (Wt'.map nD)] ∧ k' < k ∧ 2 * F'.length + k' = 2 * n + Wt'.length ∧
            F'.Nodup ∧ (∀ x ∈ F', x < n) ∧ (∀ x ∈ Wt', x ∈ F') ∧ w ∈ F' ∧ (∀ x ∈ F', x ∈ Wt' ∨ x = w ∨ ∀ y, y < n → f x y ≤ 0 → y ∈ F') ∧ ∀ y, y < j → f w y ≤ 0 → y ∈ F')
          (by simp [matD] at hl ⊢; rw [hl]) ⟨_, F, Wt, k - 1, rfl, rfl, by omega, by omega, C.nd, C.lt, fun x hx => C.sub x (by simp [hx]), hwF, fun x hx => ?_, fun y hy => absurd hy (Nat.not_lt_zero _)⟩ ?_ ?_
        · rcases C.cl x hx with h | h
          · rcases List.mem_append.mp h with h | h
            · exact .inl h
            · exact .inr (.inl (by simpa using h))
          · exact .inr (.inr h)
        · rintro j rho s' hj ⟨y, F', Wt', k', rfl, rfl, h1, h2, h3, h4, h5, h6, h7, h8⟩
          refine ⟨_, by simp; rfl, ?_⟩
          have hF' := nodup_len h3 h4
          have g2 : (st ++ [Cell.dic (fK F') (fV F'), .lst (Wt'.map nD)])[st.length]? = some (.dic (fK F') (fV F')) := by simp
          have g3 : (st ++ [Cell.dic (fK F') (fV F'), .lst (Wt'.map nD)])[st.length + 1]? = some (.lst (Wt'.map nD)) := by simp
          by_cases hjF : j ∈ F'
          · refine Runs.ifF (by simp [nin_dic' j g2, hjF]) (Runs.next ⟨.inl rfl, _, F', Wt', k', rfl, rfl, h1, h2, h3, h4, h5, h6, h7, fun y hy hf => ?_⟩)
            by_cases e : y = j
            · rw [e]; exact hjF
            · exact h8 y (by omega) hf
          · by_cases hf0 : f w j ≤ 0
            · refine Runs.ifT (by simp [nin_dic' j g2, hjF, mat_ix _ hw, row_ix _ hj, nD, hf0]; rfl) ?_
              have nd' : (F' ++ [j]).Nodup := List.nodup_append.mpr ⟨h3, by simp, fun a ha b hb => by simp at hb; subst hb; exact fun e => hjF (e ▸ ha)⟩
              have lt' : ∀ x ∈ F' ++ [j], x < n := fun x hx => by
                rcases List.mem_append.mp hx with h | h
                · exact h4 x h
                · simp at h; omega
              have hlen := nodup_len nd' lt'
              simp only [List.length_append, List.length_singleton] at hlen
              refine Runs.seq (Runs.of (f := .nx) (rho' := [some (.d (matD n f)), some (.d (.int (s : Nat))), some (.r st.length), some (.r (st.length + 1)), some (.d (nD w)), some (.d (.int (j : Nat)))]) (st' := st ++ [.dic (fK (F' ++ [j])) (fV (F' ++ [j])), .lst (Wt'.map nD)]) ?_ ?_)
              · have pn := put_new (fun _ => D.bl true) j hjF
                have kk : Mini.keyOf (.d (.int (j : Nat))) = some (.inl (j : Nat)) := rfl
                have l1 : (fK F').length < lim := by unfold fK; rw [List.length_map]; exact lim_gt (by omega)
                simp [g2, kk, l1]
                unfold fK fV
                rw [pn]
                simp
              · refine Runs.drop (x := .d .non) (st1 := st ++ [.dic (fK (F' ++ [j])) (fV (F' ++ [j])), .lst ((Wt' ++ [j]).map nD)]) ?_ ⟨.inl rfl, _, F' ++ [j], Wt' ++ [j], k' - 1, rfl, rfl, by omega, by simp; omega, nd', lt', fun x hx => ?_, by simp [h6], fun x hx => ?_, fun y hy hf => ?_⟩
                · have : Wt'.length < lim := lim_gt (by omega)
                  simp [this, nD]
                · rcases List.mem_append.mp hx with h | h
                  · exact List.mem_append_left _ (h5 x h)
                  · exact List.mem_append_right _ h
                · rcases List.mem_append.mp hx with h | h
                  · rcases h7 x h with h | h | h
                    · exact .inl (List.mem_append_left _ h)
                    · exact .inr (.inl h)
                    · exact .inr (.inr fun y hy hf => List.mem_append_left _ (h y hy hf))
                  · exact .inl (List.mem_append_right _ h)
                · by_cases e : y = j
                  · rw [e]; simp
                  · exact List.mem_append_left _ (h8 y (by omega) hf)
            · refine Runs.ifF (by simp [nin_dic' j g2, hjF, mat_ix _ hw, row_ix _ hj, nD, hf0]) (Runs.next ⟨.inl rfl, _, F', Wt', k', rfl, rfl, h1, h2, h3, h4, h5, h6, h7, fun y hy hf => ?_⟩)
              by_cases e : y = j
              · subst e; exact absurd hf hf0
              · exact h8 y (by omega) hf
        · rintro rho s' ⟨y, F', Wt', k', rfl, rfl, h1, h2, h3, h4, h5, h6, h7, h8⟩
          refine ⟨.inl rfl, k', h1, _, _, F', Wt', rfl, rfl, ⟨h3, h4, h5, fun e => (by rw [e] at h6; cases h6), fun x hx => ?_⟩, h2, by omega⟩
          rcases h7 x hx with h | h | h
          · exact .inl h
          · rw [h]; exact .inr h8
          · exact .inr h
    obtain ⟨fl, rho, s', e, rfl, x, y, F, rfl, rfl, C⟩ := main
    obtain ⟨S, hp, hS⟩ := sort_nD F
    have hF := nodup_len C.nd C.lt
    have mem : ∀ x, x ∈ S ↔ x ∈ F := fun x => hp.mem_iff
    refine ⟨S, ⟨fun e => C.ne (by have := hp.length_eq; rw [e] at this; exact List.eq_nil_of_length_eq_zero this.symm), fun x hx => C.lt x ((mem x).mp hx), hp.nodup_iff.mpr C.nd, fun x hx y hy hf => ?_⟩, ?_⟩
    · rcases C.cl x ((mem x).mp hx) with h | h
      · cases h
      · exact (mem y).mpr (h y hy hf)
    · refine Runs.seq (Runs.par (xs := [.r st.length, .r (st.length + 1)]) (st1 := st ++ [.dic (fK [s]) (fV [s]), .lst ([s].map nD)]) ?_ rfl ?_)
      · simp [mDisp, mPairs, Mini.putAll, putD, fK, fV, nD]
      · refine Runs.seq (Runs.of e ?_)
        have g2 : dicOf (st ++ [Cell.dic (fK F) (fV F), .lst []]) (.r st.length) = some (fK F, fV F) := by
          show (match (st ++ [Cell.dic (fK F) (fV F), .lst []])[st.length]? with
            | some (.dic ks ds) => some (ks, ds)
            | _ => none) = _
          simp
        refine Runs.ret (x := .d (ordD S)) (st1 := st ++ [Cell.dic (fK F) (fV F), .lst []]) ?_ (.v rfl ⟨_, rfl⟩)
        simp [sortDV, g2, keysI_fK, show F.length < 64 by omega, hS, ordD]
  obtain ⟨S, hS, h⟩ := key
  exact ⟨S, callV_run h, hS⟩
theorem smith_ok (st : Store) (hn : n ≤ 5) (hn1 : 1 ≤ n) (h : RowsOk n rs) : ∃ S, callV d_smith st [.d (bookD n rs)] = some (.d (ordD S), st) ∧ Lot n (M rs) S := by
  have hb := rngOf1_nat (n := n) (by omega)
  obtain ⟨L, hL⟩ : ∃ L : Nat → List Nat, ∀ s, s < n → callV d_closed_from st [.d (matD n (M rs)), .d (.int (s : Nat))] = some (.d (ordD (L s)), st) ∧ Lot n (M rs) (L s) := by
    refine Classical.axiomOfChoice (r := fun s S => s < n → callV d_closed_from st [.d (matD n (M rs)), .d (.int (s : Nat))] = some (.d (ordD S), st) ∧ Lot n (M rs) S) fun s => ?_
    by_cases hs : s < n
    · obtain ⟨S, h1, h2⟩ := closed_ok st (f := M rs) hn hs
      exact ⟨S, fun _ => ⟨h1, h2⟩⟩
    · exact ⟨[], fun z => absurd z hs⟩
  have e2 : fldOf ["many", "rows"] [nD n, rowsD rs] "many" = some (.int (n : Nat)) := rfl
  have hbook : bookD n rs = .obj 0 ["many", "rows"] [nD n, rowsD rs] := rfl
  let lots : List D := (List.range n).map fun s => ordD (L s)
  let lens : List Int := (List.range n).map fun s => (((L s).length : Nat) : Int)
  obtain ⟨l0, ls, hlens⟩ : ∃ l0 ls, lens = l0 :: ls := by
    cases hl : lens with
    | nil =>
      have := congrArg List.length hl
      simp [lens] at this
      omega
    | cons a l => exact ⟨a, l, rfl⟩
  obtain ⟨g1, g2, g3⟩ := minL_le ls l0
  have hmin : minL l0 ls ∈ lens := by
    rw [hlens]
    rcases g3 with g3 | g3
    · rw [g3]; exact List.mem_cons_self
    · exact List.mem_cons_of_mem _ g3
  obtain ⟨s0, hs0, e0⟩ := List.mem_map.mp hmin
  have hs0 : s0 < n := by simpa using hs0
  let pick : List Nat := (List.range n).filter fun s => decide ((((L s).length : Nat) : Int) = minL l0 ls)
  obtain ⟨s1, rest, hpick⟩ : ∃ s1 rest, pick = s1 :: rest := by
    have : s0 ∈ pick := List.mem_filter.mpr ⟨List.mem_range.mpr hs0, decide_eq_true e0⟩
    cases hp : pick with
    | nil => rw [hp] at this; cases this
    | cons a l => exact ⟨a, l, rfl⟩
  have hs1 : s1 < n := by
    have : s1 ∈ pick := by rw [hpick]; exact List.mem_cons_self
    simpa using (List.mem_filter.mp this).1
  refine ⟨L s1, callV_run ?_, (hL s1 hs1).2⟩
  refine Runs.seq (Runs.set (x := .d (matD n (M rs))) (st1 := st) (by simp [margins_ok _ hn h]) ?_)
  refine Runs.seq (Runs.set (x := .d (.lst lots)) (st1 := st) ?_ ?_)
  · rw [mLc_all (List.range n) (fun (k : Nat) => Itm.one (.int (k : Nat))) (fun s => ordD (L s))]
    · simp [hbook, e2, hb]
    · simp; omega
    · intro s hs
      have hs : s < n := by simpa using hs
      exact ⟨_, by simp; rfl, by simp [(hL s hs).1]⟩
  · refine Runs.ret (x := .d (ordD (L s1))) (st1 := st) ?_ .v0
    simp
    rw [mLc_of (List.range n) (fun s => Itm.one (ordD (L s))) (fun s => decide ((((L s).length : Nat) : Int) = minL l0 ls)) (fun s => ordD (L s))]
    · show (some (Vl.d (.lst (pick.map fun s => ordD (L s))), st)).bind _ = _
      rw [hpick]
      simp [atI, ixN]
    · simp [lots]
    · simp; omega
    · intro s hs
      refine ⟨_, by simp; rfl, ?_, fun _ => by simp⟩
      simp
      rw [mLc_all (List.range n) (fun s => Itm.one (ordD (L s))) (fun s => .int (((L s).length : Nat) : Int))]
      · have hmn : minV1 st (.d (.lst ((List.range n).map fun s => D.int (((L s).length : Nat) : Int)))) = some (.d (.int (minL l0 ls))) := by
          exact minV1_lst st _ (by rw [intsOf_of]; exact congrArg some hlens)
        simp [hmn]
      · simp [lots]
      · simp; omega
      · intro s hs
        exact ⟨_, by simp; rfl, by simp⟩
end
end K53

set_option Elab.async false
set_option linter.all false
/-! paths of wins: plain mathematics of k53 -/
namespace K53
inductive Re (R : Nat → Nat → Prop) (a : Nat) : Nat → Prop
  | refl : Re R a a
  | step {b c : Nat} : Re R a b → R b c → Re R a c
theorem Re.trans {R : Nat → Nat → Prop} {a b c : Nat} (h : Re R a b) (k : Re R b c) : Re R a c := by
  induction k with
  | refl => exact h
  | step _ e ih => exact .step ih e
theorem Re.one {R : Nat → Nat → Prop} {a b : Nat} (e : R a b) : Re R a b := .step .refl e
def Ch (R : Nat → Nat → Prop) : List Nat → Prop
  | [] => True
  | [_] => True
  | x :: y :: l => R x y ∧ Ch R (y :: l)
theorem Ch.snoc {R : Nat → Nat → Prop} {y : Nat} : ∀ {l : List Nat} {x : Nat}, Ch R (l ++ [x]) → R x y → Ch R (l ++ [x] ++ [y])
  | [], x, _, e => ⟨e, trivial⟩
  | [a], x, h, e => ⟨h.1, e, trivial⟩
  | a :: b :: l, x, h, e => ⟨h.1, Ch.snoc (l := b :: l) h.2 e⟩
theorem Ch.left {R : Nat → Nat → Prop} : ∀ {l m : List Nat}, Ch R (l ++ m) → Ch R l
  | [], _, _ => trivial
  | [_], _, _ => trivial
  | a :: b :: l, m, h => ⟨h.1, Ch.left (l := b :: l) h.2⟩
theorem Ch.get {R : Nat → Nat → Prop} : ∀ {l : List Nat} {i : Nat} {x y : Nat}, Ch R l → l[i]? = some x → l[i + 1]? = some y → R x y
  | [], _, _, _, _, h, _ => by simp at h
  | [_], _, _, _, _, _, h => by simp at h
  | a :: b :: l, 0, x, y, c, h1, h2 => by
    simp at h1 h2
    subst h1 h2
    exact c.1
  | a :: b :: l, i + 1, x, y, c, h1, h2 => Ch.get (l := b :: l) (i := i) c.2 (by simpa using h1) (by simpa using h2)
/-- a path in which nothing stands twice -/
structure SP (R : Nat → Nat → Prop) (a b : Nat) (p : List Nat) : Prop where
  hd : p[0]? = some a
  la : p.getLast? = some b
  nd : p.Nodup
  ch : Ch R p
theorem SP.of_Re {R : Nat → Nat → Prop} {a b : Nat} (h : Re R a b) : ∃ p, SP R a b p := by
  induction h with
  | refl => exact ⟨[a], rfl, rfl, by simp, trivial⟩
  | @step b c _ e ih =>
    obtain ⟨p, h1, h2, h3, h4⟩ := ih
    by_cases hc : c ∈ p
    · obtain ⟨l, m, rfl⟩ := List.append_of_mem hc
      have e1 : l ++ c :: m = (l ++ [c]) ++ m := by simp
      rw [e1] at h3 h4 h1
      refine ⟨l ++ [c], ?_, by simp, (List.nodup_append.mp h3).1, h4.left⟩
      rw [List.getElem?_append_left (by simp)] at h1
      exact h1
    · obtain ⟨l, x, rfl⟩ : ∃ l x, p = l ++ [x] := by
        rcases List.eq_nil_or_concat p with h | ⟨l, x, h⟩
        · subst h; simp at h1
        · exact ⟨l, x, by simpa using h⟩
      have hx : x = b := by simpa using h2
      subst hx
      refine ⟨l ++ [x] ++ [c], ?_, by simp, List.nodup_append.mpr ⟨h3, by simp, fun y hy z hz => ?_⟩, h4.snoc e⟩
      · rw [List.getElem?_append_left (by simp)]
        exact h1
      · simp at hz
        subst hz
        intro e
        subst e
        exact hc hy
/-! ### widest paths by the table -/
def ph (k : Nat) (f : Nat → Nat → Int) : Nat → Nat → Int := fun a b => max (f a b) (min (f a k) (f k b))
def fw (f : Nat → Nat → Int) : Nat → Nat → Nat → Int
  | 0 => f
  | k + 1 => ph k (fw f k)
theorem fw_ge (f : Nat → Nat → Int) (a b : Nat) : ∀ k, f a b ≤ fw f k a b
  | 0 => Int.le_refl _
  | k + 1 => by
    have := fw_ge f a b k
    show f a b ≤ max (fw f k a b) _
    omega
/-- what is closed over the first k stays so, and k comes in -/
theorem fw_closed (f : Nat → Nat → Int) : ∀ (k m : Nat), m < k → ∀ a b, min (fw f k a m) (fw f k m b) ≤ fw f k a b
  | 0, m, h, _, _ => absurd h (Nat.not_lt_zero _)
  | k + 1, m, h, a, b => by
    show min (max (fw f k a m) (min (fw f k a k) (fw f k k m))) (max (fw f k m b) (min (fw f k m k) (fw f k k b))) ≤ max (fw f k a b) (min (fw f k a k) (fw f k k b))
    by_cases e : m = k
    · subst e
      omega
    · have hm : m < k := by omega
      have h1 := fw_closed f k m hm a b
      have h2 := fw_closed f k m hm a k
      have h3 := fw_closed f k m hm k b
      have h4 := fw_closed f k m hm k k
      omega
/-- edges of at least t -/
def Edg (n : Nat) (f : Nat → Nat → Int) (t : Int) (a b : Nat) : Prop := a < n ∧ b < n ∧ t ≤ f a b
theorem fw_sound {n : Nat} (f : Nat → Nat → Int) (t : Int) : ∀ (k : Nat), k ≤ n → ∀ a b, a < n → b < n → t ≤ fw f k a b → Re (Edg n f t) a b
  | 0, _, a, b, ha, hb, h => .one ⟨ha, hb, h⟩
  | k + 1, hk, a, b, ha, hb, h => by
    have h' : t ≤ max (fw f k a b) (min (fw f k a k) (fw f k k b)) := h
    by_cases c : t ≤ fw f k a b
    · exact fw_sound f t k (by omega) a b ha hb c
    · exact (fw_sound f t k (by omega) a k ha (by omega) (by omega)).trans (fw_sound f t k (by omega) k b (by omega) hb (by omega))
theorem fw_complete {n : Nat} (f : Nat → Nat → Int) (t : Int) {a b : Nat} (h : Re (Edg n f t) a b) : a = b ∨ t ≤ fw f n a b := by
  induction h with
  | refl => exact .inl rfl
  | @step b c _ e ih =>
    have h1 := fw_ge f b c n
    rcases ih with rfl | ih
    · exact .inr (Int.le_trans e.2.2 h1)
    · have := fw_closed f n b e.1 a c
      have := e.2.2
      exact .inr (by omega)
/-- two tables by paths -/
theorem fw_iff {n : Nat} (f : Nat → Nat → Int) (t : Int) {a b : Nat} (ha : a < n) (hb : b < n) (hab : a ≠ b) : t ≤ fw f n a b ↔ Re (Edg n f t) a b :=
  ⟨fw_sound f t n (Nat.le_refl _) a b ha hb, fun h => (fw_complete f t h).resolve_left hab⟩
theorem int_ext {x y : Int} (h : ∀ t : Int, t ≤ x ↔ t ≤ y) : x = y := Int.le_antisymm ((h x).mp (Int.le_refl _)) ((h y).mpr (Int.le_refl _))
/-! ### there is a winner -/
def Win (n : Nat) (g : Nat → Nat → Int) (a : Nat) : Prop := a < n ∧ ∀ b, b < n → g b a ≤ g a b
theorem beat_trans {n : Nat} {g : Nat → Nat → Int} (cl : ∀ m, m < n → ∀ a b, min (g a m) (g m b) ≤ g a b) {a b c : Nat} (ha : a < n) (hb : b < n) (hc : c < n) (h1 : g b a < g a b) (h2 : g c b < g b c) : g c a < g a c := by
  have := cl b hb a c
  have := cl c hc b a
  have := cl a ha c b
  omega
theorem exists_win {n : Nat} {g : Nat → Nat → Int} (cl : ∀ m, m < n → ∀ a b, min (g a m) (g m b) ≤ g a b) (hn : 0 < n) : ∃ a, Win n g a := by
  have key : ∀ k, k < n → ∃ a, a < n ∧ ∀ b, b ≤ k → g b a ≤ g a b := by
    intro k
    induction k with
    | zero =>
      intro hk
      exact ⟨0, hk, fun b hb => by
        have : b = 0 := by omega
        subst this
        exact Int.le_refl _⟩
    | succ k ih =>
      intro hk
      obtain ⟨a, ha, h⟩ := ih (by omega)
      by_cases c : g (k + 1) a ≤ g a (k + 1)
      · refine ⟨a, ha, fun b hb => ?_⟩
        by_cases e : b = k + 1
        · subst e; exact c
        · exact h b (by omega)
      · refine ⟨k + 1, hk, fun b hb => ?_⟩
        by_cases e : b = k + 1
        · subst e; exact Int.le_refl _
        · by_cases d : g b (k + 1) ≤ g (k + 1) b
          · exact d
          · have := beat_trans cl (a := b) (b := k + 1) (c := a) (by omega) hk ha (by omega) (by omega)
            have := h b (by omega)
            omega
  obtain ⟨a, ha, h⟩ := key (n - 1) (by omega)
  exact ⟨a, ha, fun b hb => h b (by omega)⟩
end K53

set_option Elab.async false
set_option linter.all false
set_option maxRecDepth 100000
namespace K53
open PySem PySem.Spec PyProof.Rows L2 Mini
section
variable {n : Nat} {rs : List (Nat × List Nat)}
def rowL (n : Nat) (f : Nat → Int) : List D := (List.range n).map fun b => .int (f b)
def gridL (n : Nat) (f : Nat → Nat → Int) : List (List D) := (List.range n).map fun a => rowL n (f a)
def upd2 (f : Nat → Nat → Int) (a b : Nat) (v : Int) : Nat → Nat → Int := fun x y => if x = a ∧ y = b then v else f x y
theorem rowL_congr {f g : Nat → Int} (h : ∀ b, b < n → f b = g b) : rowL n f = rowL n g := by
  unfold rowL
  exact List.map_congr_left fun b hb => by rw [h b (List.mem_range.mp hb)]
theorem gridL_congr {f g : Nat → Nat → Int} (h : ∀ a b, a < n → b < n → f a b = g a b) : gridL n f = gridL n g := by
  unfold gridL
  exact List.map_congr_left fun a ha => rowL_congr fun b hb => h a b (List.mem_range.mp ha) hb
theorem grid_row (f : Nat → Nat → Int) {a : Nat} (ha : a < n) : (gridL n f)[a]? = some (rowL n (f a)) := by
  unfold gridL
  rw [List.getElem?_map, List.getElem?_range ha]
  rfl
theorem map_range_set {α : Type} (f : Nat → α) {a : Nat} (v : α) : ((List.range n).map f).set a v = (List.range n).map fun x => if x = a then v else f x := by
  apply List.ext_getElem?
  intro i
  rw [List.getElem?_set]
  by_cases h : i < n
  · rw [List.getElem?_map, List.getElem?_map, List.getElem?_range h]
    by_cases e : a = i
    · subst e
      simp [h]
    · simp [e, Ne.symm e]
  · rw [List.getElem?_eq_none (l := (List.range n).map f) (by simpa using Nat.le_of_not_lt h), List.getElem?_eq_none (l := (List.range n).map fun x => if x = a then v else f x) (by simpa using Nat.le_of_not_lt h)]
    split
    · rw [if_neg (by simp; omega)]
    · rfl
theorem grid_set (f : Nat → Nat → Int) {a b : Nat} (v : Int) : (gridL n f).set a ((rowL n (f a)).set b (.int v)) = gridL n (upd2 f a b v) := by
  unfold gridL
  rw [map_range_set]
  refine List.map_congr_left fun x _ => ?_
  by_cases hx : x = a
  · subst hx
    rw [if_pos rfl]
    unfold rowL
    rw [map_range_set]
    refine List.map_congr_left fun y _ => ?_
    unfold upd2
    by_cases hy : y = b
    · rw [if_pos hy, if_pos ⟨rfl, hy⟩]
    · rw [if_neg hy, if_neg fun h => hy h.2]
  · rw [if_neg hx]
    refine rowL_congr fun y _ => ?_
    unfold upd2
    rw [if_neg fun h => hx h.1]
/-! what is read, written in the grid at k -/
variable {s : Store} {k : Nat} {f : Nat → Nat → Int}
theorem g_row (h : s[k]? = some (.grid (gridL n f))) {a : Nat} (ha : a < n) : ixV s (.r k) (.d (.int (a : Nat))) = some (.rr k a) := by
  rw [ixV_r, h]
  show (ixN (gridL n f).length (a : Nat)).map _ = _
  rw [ixN_nat (by unfold gridL; simpa using ha)]
  rfl
theorem g_at (h : s[k]? = some (.grid (gridL n f))) {a b : Nat} (ha : a < n) (hb : b < n) : ixV s (.rr k a) (.d (.int (b : Nat))) = some (.d (.int (f a b))) := by
  rw [ixV_rr]
  have e : lstOf s (.rr k a) = some (rowL n (f a)) := by
    show (match s[k]? with
      | some (.grid rs) => rs[a]?
      | _ => none) = _
    rw [h]
    exact grid_row f ha
  rw [e, Option.bind_some]
  unfold rowL
  rw [atI_range _ hb]
  rfl
theorem g_put (h : s[k]? = some (.grid (gridL n f))) {a b : Nat} (ha : a < n) (hb : b < n) (v : Int) : setIx s (.rr k a) (.d (.int (b : Nat))) (.int v) = some (s.set k (.grid (gridL n (upd2 f a b v)))) := by
  rw [setIx_rr, h]
  show ((gridL n f)[a]?).bind _ = _
  rw [grid_row f ha, Option.bind_some, ixN_nat (by unfold rowL; simpa using hb)]
  show some (s.set k (.grid ((gridL n f).set a ((rowL n (f a)).set b (.int v))))) = _
  rw [grid_set]
/-- the wins, before paths are gone -/
def E0 (rs : List (Nat × List Nat)) (a b : Nat) : Int := if a = b ∨ W rs a b ≤ W rs b a then 0 else (W rs a b : Nat)
def winners (n : Nat) (f : Nat → Nat → Int) : List Nat := (List.range n).filter fun a => (List.range n).all fun b => decide (f a b ≥ f b a)
theorem at_last {st : Store} {c : Cell} : (st ++ [c])[st.length]? = some c := by simp
theorem widest_ok (st : Store) (hn : n ≤ 5) (h : RowsOk n rs) : callV d_widest st [.d (bookD n rs)] = some (.d (ordD (winners n (fw (E0 rs) n))), st) := by
  have hb := rngOf1_nat (n := n) (by omega)
  have e1 : fldOf ["many", "rows"] [nD n, rowsD rs] "rows" = some (rowsD rs) := rfl
  have e2 : fldOf ["many", "rows"] [nD n, rowsD rs] "many" = some (.int (n : Nat)) := rfl
  have hbook : bookD n rs = .obj 0 ["many", "rows"] [nD n, rowsD rs] := rfl
  refine callV_run ?_
  refine Runs.seq (Runs.set (x := .d (.int (n : Nat))) (st1 := st) (by simp [hbook, e2]) ?_)
  refine Runs.seq (Runs.set (x := .r st.length) (st1 := st ++ [.grid (gridL n fun a b => (W rs a b : Nat))]) ?_ ?_)
  · refine mLcG_all (List.range n) (fun (k : Nat) => Itm.one (.int (k : Nat))) (fun a => rowL n fun b => (W rs a b : Nat)) (by simp [hb]) (by simp; omega) fun a ha => ?_
    have ha : a < n := by simpa using ha
    refine ⟨_, by simp; rfl, ?_⟩
    refine mLcN_all (List.range n) (fun (k : Nat) => Itm.one (.int (k : Nat))) (fun b => .int (W rs a b : Nat)) (by simp [hb]) (by simp; omega) fun b hb => ?_
    have hb : b < n := by simpa using hb
    exact ⟨_, by simp; rfl, by simp [hbook, e1, for_one_ok _ h ha hb]⟩
  refine Runs.seq (Runs.forN (n := n) (fun i rho s => ∃ x y, rho = [some (.d (bookD n rs)), some (.d (.int (n : Nat))), some (.r st.length), x, y, none, none] ∧ s = st ++ [.grid (gridL n fun a b => if a < i then E0 rs a b else (W rs a b : Nat))]) (st1 := st ++ [.grid (gridL n fun a b => (W rs a b : Nat))]) (by simp [hb]) ⟨none, none, rfl, ?_⟩ ?_ ?_)
  · simp
  · rintro i rho s hi ⟨x, y, rfl, rfl⟩
    refine ⟨_, by simp; rfl, ?_⟩
    refine Runs.forN (n := n) (fun j rho s => ∃ y, rho = [some (.d (bookD n rs)), some (.d (.int (n : Nat))), some (.r st.length), some (.d (.int (i : Nat))), y, none, none] ∧ s = st ++ [.grid (gridL n fun a b => if a < i ∨ a = i ∧ b < j then E0 rs a b else (W rs a b : Nat))]) (st1 := st ++ [.grid (gridL n fun a b => if a < i then E0 rs a b else (W rs a b : Nat))]) (by simp [hb]) ⟨y, rfl, ?_⟩ ?_ ?_
    · simp
    · rintro j rho s hj ⟨y, rfl, rfl⟩
      refine ⟨_, by simp; rfl, ?_⟩
      have step : ∀ a b, a < n → b < n → (i = j ∨ W rs i j ≤ W rs j i) → upd2 (fun a b => if a < i ∨ a = i ∧ b < j then E0 rs a b else (W rs a b : Nat)) i j 0 a b = if a < i ∨ a = i ∧ b < j + 1 then E0 rs a b else (W rs a b : Nat) := by
        intro a b ha hb hij
        unfold upd2
        by_cases e : a = i ∧ b = j
        · rw [if_pos e, e.1, e.2, if_pos (by omega)]
          unfold E0
          rw [if_pos hij]
        · rw [if_neg e]
          show (if a < i ∨ a = i ∧ b < j then E0 rs a b else (W rs a b : Nat)) = _
          by_cases c : a < i ∨ a = i ∧ b < j
          · rw [if_pos c, if_pos (by omega)]
          · rw [if_neg c, if_neg (by omega)]
      by_cases hij : i = j
      · refine Runs.ifT (st1 := st ++ [.grid (gridL n fun a b => if a < i ∨ a = i ∧ b < j then E0 rs a b else (W rs a b : Nat))]) (by simp [hij]) ?_
        refine Runs.of (f := .nx) (rho' := [some (.d (bookD n rs)), some (.d (.int (n : Nat))), some (.r st.length), some (.d (.int (i : Nat))), some (.d (.int (j : Nat))), none, none]) (st' := st ++ [.grid (gridL n fun a b => if a < i ∨ a = i ∧ b < j + 1 then E0 rs a b else (W rs a b : Nat))]) ?_ ⟨.inl rfl, _, rfl, rfl⟩
        rw [← gridL_congr fun a b ha hb => step a b ha hb (.inl hij)]
        rw [mSetIx_ap]
        simp only [mC_ap, Option.bind_some, mOp_ap, mVar_ap, List.getElem?_cons_succ, List.getElem?_cons_zero]
        rw [g_row at_last hi]
        simp only [Option.map_some, Option.bind_some]
        rw [g_put at_last hi hj]
        simp
      · by_cases hle : W rs i j ≤ W rs j i
        · refine Runs.ifT (st1 := st ++ [.grid (gridL n fun a b => if a < i ∨ a = i ∧ b < j then E0 rs a b else (W rs a b : Nat))]) (by simp [hij, hbook, e1, for_one_ok _ h hi hj, for_one_ok _ h hj hi, hle]) ?_
          refine Runs.of (f := .nx) (rho' := [some (.d (bookD n rs)), some (.d (.int (n : Nat))), some (.r st.length), some (.d (.int (i : Nat))), some (.d (.int (j : Nat))), none, none]) (st' := st ++ [.grid (gridL n fun a b => if a < i ∨ a = i ∧ b < j + 1 then E0 rs a b else (W rs a b : Nat))]) ?_ ⟨.inl rfl, _, rfl, rfl⟩
          rw [← gridL_congr fun a b ha hb => step a b ha hb (.inr hle)]
          rw [mSetIx_ap]
          simp only [mC_ap, Option.bind_some, mOp_ap, mVar_ap, List.getElem?_cons_succ, List.getElem?_cons_zero]
          rw [g_row at_last hi]
          simp only [Option.map_some, Option.bind_some]
          rw [g_put at_last hi hj]
          simp
        · refine Runs.ifF (st1 := st ++ [.grid (gridL n fun a b => if a < i ∨ a = i ∧ b < j then E0 rs a b else (W rs a b : Nat))]) (by simp [hij, hbook, e1, for_one_ok _ h hi hj, for_one_ok _ h hj hi, hle]; omega) (Runs.next ⟨.inl rfl, _, rfl, ?_⟩)
          congr 3
          refine gridL_congr fun a b ha hb => ?_
          by_cases e : a = i ∧ b = j
          · rw [e.1, e.2, if_neg (by omega), if_pos (by omega)]
            unfold E0
            rw [if_neg (by omega)]
          · by_cases c : a < i ∨ a = i ∧ b < j
            · rw [if_pos c, if_pos (by omega)]
            · rw [if_neg c, if_neg (by omega)]
    · rintro rho s ⟨y, rfl, rfl⟩
      refine ⟨.inl rfl, _, y, rfl, ?_⟩
      congr 3
      refine gridL_congr fun a b ha hb => ?_
      by_cases c : a < i ∨ a = i ∧ b < n
      · rw [if_pos c, if_pos (by omega)]
      · rw [if_neg c, if_neg (by omega)]
  rintro rho s ⟨x, y, rfl, rfl⟩
  have g0 : gridL n (fun a b => if a < n then E0 rs a b else (W rs a b : Nat)) = gridL n (fw (E0 rs) 0) := gridL_congr fun a b ha _ => if_pos ha
  rw [g0]
  refine Runs.seq (Runs.forN (n := n) (st1 := st ++ [.grid (gridL n (fw (E0 rs) 0))]) (fun k rho s => ∃ x y z, rho = [some (.d (bookD n rs)), some (.d (.int (n : Nat))), some (.r st.length), x, y, z, none] ∧ s = st ++ [.grid (gridL n (fw (E0 rs) k))]) (by simp [hb]) ⟨x, y, none, rfl, rfl⟩ ?_ ?_)
  · rintro k rho s hk ⟨x, y, z, rfl, rfl⟩
    refine ⟨_, by simp; rfl, ?_⟩
    generalize hF : fw (E0 rs) k = F
    refine Runs.forN (n := n) (st1 := st ++ [.grid (gridL n F)]) (fun i rho s => ∃ x y, rho = [some (.d (bookD n rs)), some (.d (.int (n : Nat))), some (.r st.length), x, y, some (.d (.int (k : Nat))), none] ∧ s = st ++ [.grid (gridL n fun a b => if a < i then ph k F a b else F a b)]) (by simp [hb]) ⟨x, y, rfl, ?_⟩ ?_ ?_
    · simp
    · rintro i rho s hi ⟨x, y, rfl, rfl⟩
      refine ⟨_, by simp; rfl, ?_⟩
      refine Runs.forN (n := n) (st1 := st ++ [.grid (gridL n fun a b => if a < i then ph k F a b else F a b)]) (fun j rho s => ∃ y, rho = [some (.d (bookD n rs)), some (.d (.int (n : Nat))), some (.r st.length), some (.d (.int (i : Nat))), y, some (.d (.int (k : Nat))), none] ∧ s = st ++ [.grid (gridL n fun a b => if a < i ∨ a = i ∧ b < j then ph k F a b else F a b)]) (by simp [hb]) ⟨y, rfl, ?_⟩ ?_ ?_
      · simp
      · rintro j rho s hj ⟨y, rfl, rfl⟩
        refine ⟨_, by simp; rfl, ?_⟩
        have vk : (if i < i ∨ i = i ∧ k < j then ph k F i k else F i k) = F i k := by
          split
          · unfold ph; omega
          · rfl
        have vj : (if k < i ∨ k = i ∧ j < j then ph k F k j else F k j) = F k j := by
          split
          · unfold ph; omega
          · rfl
        refine Runs.of (f := .nx) (rho' := [some (.d (bookD n rs)), some (.d (.int (n : Nat))), some (.r st.length), some (.d (.int (i : Nat))), some (.d (.int (j : Nat))), some (.d (.int (k : Nat))), none]) (st' := st ++ [.grid (gridL n fun a b => if a < i ∨ a = i ∧ b < j + 1 then ph k F a b else F a b)]) ?_ ⟨.inl rfl, _, rfl, rfl⟩
        have e : gridL n (fun a b => if a < i ∨ a = i ∧ b < j + 1 then ph k F a b else F a b) = gridL n (upd2 (fun a b => if a < i ∨ a = i ∧ b < j then ph k F a b else F a b) i j (ph k F i j)) := gridL_congr fun a b ha hb => by
          unfold upd2
          by_cases e : a = i ∧ b = j
          · rw [if_pos e, e.1, e.2, if_pos (by omega)]
          · rw [if_neg e]
            show (if a < i ∨ a = i ∧ b < j + 1 then ph k F a b else F a b) = (if a < i ∨ a = i ∧ b < j then ph k F a b else F a b)
            by_cases c : a < i ∨ a = i ∧ b < j
            · rw [if_pos c, if_pos (by omega)]
            · rw [if_neg c, if_neg (by omega)]
        have vij : (if i < i ∨ i = i ∧ j < j then ph k F i j else F i j) = F i j := if_neg (by omega)
        rw [e]
        generalize hG : (fun a b => if a < i ∨ a = i ∧ b < j then ph k F a b else F a b) = G
        have wij : G i j = F i j := by rw [← hG]; exact vij
        have wik : G i k = F i k := by rw [← hG]; exact vk
        have wkj : G k j = F k j := by rw [← hG]; exact vj
        rw [mSetIx_ap]
        simp only [mBi_ap, mCons_ap, mNil_ap, mC_ap, Option.bind_some, mOp_ap, mVar_ap, List.getElem?_cons_succ, List.getElem?_cons_zero]
        simp only [g_row at_last hi, g_row at_last hk, g_row at_last hj, Option.map_some, Option.bind_some, g_at at_last hi hj, g_at at_last hi hk, g_at at_last hk hj, two_ap, minV2_int, maxV2_int, wij, wik, wkj]
        rw [g_put at_last hi hj]
        simp [ph]
      · rintro rho s ⟨y, rfl, rfl⟩
        refine ⟨.inl rfl, _, y, rfl, ?_⟩
        congr 3
        refine gridL_congr fun a b ha hb => ?_
        by_cases c : a < i ∨ a = i ∧ b < n
        · rw [if_pos c, if_pos (by omega)]
        · rw [if_neg c, if_neg (by omega)]
    · rintro rho s ⟨x, y, rfl, rfl⟩
      refine ⟨.inl rfl, _, _, _, rfl, ?_⟩
      congr 3
      exact gridL_congr fun a b ha _ => (if_pos ha).trans (by rw [← hF]; rfl)
  rintro rho s ⟨x, y, z, rfl, rfl⟩
  generalize fw (E0 rs) n = F
  refine Runs.seq (Runs.set (x := .d (.lst ((winners n F).map nD))) (st1 := st ++ [.grid (gridL n F)]) ?_ ?_)
  · rw [mLc_of (List.range n) (fun (k : Nat) => Itm.one (.int (k : Nat))) (fun a => (List.range n).all fun b => decide (F a b ≥ F b a)) nD]
    · rfl
    · simp [hb]
    · simp; omega
    · intro a ha
      have ha : a < n := by simpa using ha
      refine ⟨_, by simp; rfl, ?_, fun _ => by simp [nD]⟩
      simp
      rw [mLc_all (List.range n) (fun (k : Nat) => Itm.one (.int (k : Nat))) (fun b => .bl (decide (F a b ≥ F b a)))]
      · simp [blsOf_of]
      · simp [hb]
      · simp; omega
      · intro b hb
        have hb : b < n := by simpa using hb
        refine ⟨_, by simp; rfl, ?_⟩
        simp only [mOp_ap, mVar_ap, List.set_cons_succ, List.set_cons_zero, List.getElem?_cons_succ, List.getElem?_cons_zero, Option.bind_some]
        simp only [g_row at_last ha, g_row at_last hb, Option.map_some, Option.bind_some, g_at at_last ha hb, g_at at_last hb ha, geV_int]
  · exact Runs.ret (x := .d (ordD (winners n F))) (st1 := st ++ [.grid (gridL n F)]) (by simp; rfl) (.v rfl ⟨_, rfl⟩)
end
end K53

set_option Elab.async false
set_option linter.all false
set_option maxRecDepth 100000
namespace K53
open PySem PySem.Spec PyProof.Rows L2 Mini
section
variable {n : Nat} {rs : List (Nat × List Nat)}
theorem over_ok (st : Store) {a b : Nat} (h : RowsOk n rs) (ha : a < n) (hb : b < n) : callV d_L_over st [.d (rowsD rs), .d (.int (a : Nat)), .d (.int (b : Nat))] = some (.d (.int (W rs a b : Nat)), st) := for_one_ok st h ha hb
theorem Lmargins_ok (st : Store) (hn : n ≤ 5) (h : RowsOk n rs) : callV d_L_margins st [.d (.int (n : Nat)), .d (rowsD rs)] = some (.d (matD n (M rs)), st) := by
  have hb := rngOf1_nat (n := n) (by omega)
  refine callV_run ?_
  refine Runs.seq (Runs.set (by simp; exact ⟨rfl, rfl⟩) ?_)
  refine Runs.seq (Runs.for_ (List.range n) (fun (k : Nat) => Itm.one (.int (k : Nat))) (fun pre rho s => ∃ x, rho = [some (.d (.int (n : Nat))), some (.d (rowsD rs)), some (.r st.length), x, none] ∧ s = st ++ [.lst (pre.map fun a => .tup ((List.range n).map fun b => .int (M rs a b)))])
    (by simp [hb]) ⟨none, rfl, rfl⟩ ?_ ?_)
  · rintro pre a post rho s hp ⟨x, rfl, rfl⟩
    obtain ⟨ha, hl⟩ := mem_pre hp
    refine ⟨_, by simp; rfl, Runs.drop (x := .d .non) ?_ ⟨.inl rfl, _, rfl, rfl⟩⟩
    · simp
      rw [mLc_all (List.range n) (fun (k : Nat) => Itm.one (.int (k : Nat))) (fun b => .int (M rs a b))]
      · simp
        exact lim_gt (by omega)
      · simp [hb]
      · simp; omega
      · intro b hb
        have hb : b < n := by simpa using hb
        refine ⟨_, by simp; rfl, ?_⟩
        simp [over_ok _ h ha hb, over_ok _ h hb ha, M]
  · rintro rho s ⟨x, rfl, rfl⟩
    exact Runs.ret (by simp; exact ⟨rfl, rfl⟩) (.v rfl ⟨_, rfl⟩)
/-! ### the law's own paths -/
abbrev Item := List Nat × Int
def lastN (p : List Nat) : Nat := p.getLastD 0
def itemD (x : Item) : D := .tup [ordD x.1, .int x.2]
def cands (n : Nat) (rs : List (Nat × List Nat)) (p : List Nat) : List Nat := (List.range n).filter fun o => decide (o ∉ p) && decide (M rs (lastN p) o > 0)
def here (rs : List (Nat × List Nat)) (x : Item) (o : Nat) : Int := min x.2 (W rs (lastN x.1) o : Nat)
def best1 (rs : List (Nat × List Nat)) (e : Nat) (x : Item) (b : Int) (os : List Nat) : Int := os.foldl (fun b o => if o = e then max b (here rs x o) else b) b
def push1 (rs : List (Nat × List Nat)) (e : Nat) (x : Item) (os : List Nat) : List Item := (os.filter fun o => decide (o ≠ e)).map fun o => (x.1 ++ [o], here rs x o)
def EdW (n : Nat) (rs : List (Nat × List Nat)) (t : Int) : Nat → Nat → Prop := Edg n (E0 rs) t
theorem E0_pos {a b : Nat} {t : Int} (ht : 1 ≤ t) : t ≤ E0 rs a b ↔ (M rs a b > 0 ∧ t ≤ (W rs a b : Nat)) := by
  unfold E0 M
  by_cases c : a = b ∨ W rs a b ≤ W rs b a
  · rw [if_pos c]
    constructor
    · intro h; omega
    · rintro ⟨h1, h2⟩
      rcases c with rfl | c <;> omega
  · rw [if_neg c]
    omega
structure Inv (n : Nat) (rs : List (Nat × List Nat)) (b e : Nat) (best : Int) (wt : List Item) : Prop where
  ok : ∀ x ∈ wt, x.1 ≠ [] ∧ x.1.Nodup ∧ (∀ v ∈ x.1, v < n) ∧ e ∉ x.1
  re : ∀ x ∈ wt, ∀ t : Int, 1 ≤ t → t ≤ x.2 → Re (EdW n rs t) b (lastN x.1)
  nn : 0 ≤ best
  so : ∀ t : Int, 1 ≤ t → t ≤ best → Re (EdW n rs t) b e
  co : ∀ (t : Int) (vs : List Nat), 1 ≤ t → t ≤ 1000000 → SP (EdW n rs t) b e vs → t ≤ best ∨ ∃ i w, i + 1 < vs.length ∧ (vs.take (i + 1), w) ∈ wt ∧ t ≤ w
def cost : Nat → Nat
  | 0 => 1
  | k + 1 => 1 + (k + 1) * cost k
def costs (n : Nat) (wt : List Item) : Nat := (wt.map fun x => cost (n - x.1.length)).sum
theorem best1_ge (e : Nat) (x : Item) : ∀ (os : List Nat) (b : Int), b ≤ best1 rs e x b os ∧ (e ∈ os → here rs x e ≤ best1 rs e x b os) ∧ (best1 rs e x b os = b ∨ e ∈ os ∧ best1 rs e x b os = here rs x e)
  | [], b => ⟨Int.le_refl _, fun h => (by cases h), .inl rfl⟩
  | o :: os, b => by
    obtain ⟨h1, h2, h3⟩ := best1_ge e x os (if o = e then max b (here rs x o) else b)
    have eq : best1 rs e x b (o :: os) = best1 rs e x (if o = e then max b (here rs x o) else b) os := rfl
    rw [eq]
    by_cases c : o = e
    · subst c
      rw [if_pos rfl] at h1 h2 h3 ⊢
      refine ⟨by omega, fun _ => by omega, ?_⟩
      rcases h3 with h3 | ⟨h3, h4⟩
      · rw [h3]
        by_cases d : here rs x o ≤ b
        · exact .inl (by omega)
        · exact .inr ⟨List.mem_cons_self, by omega⟩
      · exact .inr ⟨List.mem_cons_self, h4⟩
    · rw [if_neg c] at h1 h2 h3 ⊢
      refine ⟨h1, fun h => h2 ((List.mem_cons.mp h).resolve_left (Ne.symm c)), h3.imp id fun h => ⟨List.mem_cons_of_mem _ h.1, h.2⟩⟩
theorem mem_cands {p : List Nat} {o : Nat} : o ∈ cands n rs p ↔ o < n ∧ o ∉ p ∧ M rs (lastN p) o > 0 := by
  unfold cands
  rw [List.mem_filter, List.mem_range, Bool.and_eq_true, decide_eq_true_eq, decide_eq_true_eq]
theorem lastN_snoc (p : List Nat) (o : Nat) : lastN (p ++ [o]) = o := by simp [lastN]
theorem Inv.step {b e : Nat} {best : Int} {wt : List Item} {x : Item} (I : Inv n rs b e best (wt ++ [x])) : Inv n rs b e (best1 rs e x best (cands n rs x.1)) (wt ++ push1 rs e x (cands n rs x.1)) := by
  obtain ⟨hne, hnd, hlt, hex⟩ := I.ok x (by simp)
  obtain ⟨g1, g2, g3⟩ := best1_ge (rs := rs) e x (cands n rs x.1) best
  have hl : lastN x.1 < n := by
    obtain ⟨l, v, hv⟩ : ∃ l v, x.1 = l ++ [v] := by
      rcases List.eq_nil_or_concat x.1 with h | ⟨l, v, h⟩
      · exact absurd h hne
      · exact ⟨l, v, by simpa using h⟩
    rw [hv, lastN_snoc]
    exact hlt v (by rw [hv]; simp)
  have edge : ∀ o ∈ cands n rs x.1, ∀ t : Int, 1 ≤ t → t ≤ here rs x o → t ≤ x.2 ∧ EdW n rs t (lastN x.1) o := fun o ho t h1 h2 => by
    obtain ⟨k1, k2, k3⟩ := mem_cands.mp ho
    unfold here at h2
    exact ⟨by omega, hl, k1, (E0_pos h1).mpr ⟨k3, by omega⟩⟩
  refine ⟨fun y hy => ?_, fun y hy t h1 h2 => ?_, by have := I.nn; omega, fun t h1 h2 => ?_, fun t vs h1 h2 sp => ?_⟩
  · rcases List.mem_append.mp hy with hy | hy
    · exact I.ok y (List.mem_append_left _ hy)
    · obtain ⟨o, ho, rfl⟩ := List.mem_map.mp hy
      obtain ⟨ho, hoe⟩ := List.mem_filter.mp ho
      obtain ⟨k1, k2, k3⟩ := mem_cands.mp ho
      refine ⟨by simp, List.nodup_append.mpr ⟨hnd, by simp, fun a ha c hc => ?_⟩, fun v hv => ?_, fun h => ?_⟩
      · simp at hc; subst hc; exact fun z => k2 (z ▸ ha)
      · rcases List.mem_append.mp hv with hv | hv
        · exact hlt v hv
        · simp at hv; omega
      · rcases List.mem_append.mp h with h | h
        · exact hex h
        · simp at h
          simp at hoe
          exact hoe h.symm
  · rcases List.mem_append.mp hy with hy | hy
    · exact I.re y (List.mem_append_left _ hy) t h1 h2
    · obtain ⟨o, ho, rfl⟩ := List.mem_map.mp hy
      obtain ⟨ho, hoe⟩ := List.mem_filter.mp ho
      obtain ⟨k1, k2⟩ := edge o ho t h1 h2
      simp only [lastN_snoc]
      exact .step (I.re x (by simp) t h1 k1) k2
  · rcases g3 with g3 | ⟨g3, g4⟩
    · rw [g3] at h2
      exact I.so t h1 h2
    · rw [g4] at h2
      obtain ⟨k1, k2⟩ := edge e g3 t h1 h2
      exact .step (I.re x (by simp) t h1 k1) k2
  · rcases I.co t vs h1 h2 sp with h | ⟨i, w, hi, hm, hw⟩
    · exact .inl (by omega)
    · rcases List.mem_append.mp hm with hm | hm
      · exact .inr ⟨i, w, hi, List.mem_append_left _ hm, hw⟩
      · have ex : x = (vs.take (i + 1), w) := (List.mem_singleton.mp hm).symm
        have hi0 : i < vs.length := by omega
        have et : vs.take (i + 1) = vs.take i ++ [vs[i]] := by rw [List.take_add_one, List.getElem?_eq_getElem hi0]; rfl
        have elast : lastN x.1 = vs[i] := by rw [ex]; show lastN (vs.take (i + 1)) = _; rw [et, lastN_snoc]
        have ed : EdW n rs t vs[i] vs[i + 1] := sp.ch.get (List.getElem?_eq_getElem hi0) (List.getElem?_eq_getElem hi)
        have hc : vs[i + 1] ∈ cands n rs x.1 := by
          obtain ⟨k1, k2, k3⟩ := ed
          refine mem_cands.mpr ⟨k2, fun hin => ?_, by rw [elast]; exact ((E0_pos h1).mp k3).1⟩
          rw [ex] at hin
          obtain ⟨j, hj, ej⟩ := List.mem_iff_getElem.mp hin
          simp only [List.length_take] at hj
          rw [List.getElem_take] at ej
          have := (List.getElem_inj sp.nd).mp ej
          omega
        have hh : t ≤ here rs x vs[i + 1] := by
          have := ((E0_pos h1).mp ed.2.2).2
          unfold here
          rw [elast]
          have : x.2 = w := by rw [ex]
          omega
        by_cases he : vs[i + 1] = e
        · rw [he] at hc hh
          have := g2 hc
          exact .inl (by omega)
        · refine .inr ⟨i + 1, here rs x vs[i + 1], ?_, List.mem_append_right _ (List.mem_map.mpr ⟨vs[i + 1], List.mem_filter.mpr ⟨hc, by simpa using he⟩, ?_⟩), hh⟩
          · by_cases c : i + 1 + 1 < vs.length
            · exact c
            · exfalso
              have hl2 := sp.la
              rw [List.getLast?_eq_getElem?, show vs.length - 1 = i + 1 by omega, List.getElem?_eq_getElem hi] at hl2
              exact he (by simpa using hl2)
          · have : x.1 = vs.take (i + 1) := by rw [ex]
            rw [this]
            have e2 : vs.take (i + 1 + 1) = vs.take (i + 1) ++ [vs[i + 1]] := by rw [List.take_add_one (i := i + 1), List.getElem?_eq_getElem hi]; rfl
            rw [e2]
theorem costs_step {b e : Nat} {best : Int} {wt : List Item} {x : Item} (I : Inv n rs b e best (wt ++ [x])) : costs n (wt ++ push1 rs e x (cands n rs x.1)) < costs n (wt ++ [x]) := by
  obtain ⟨hne, hnd, hlt, hex⟩ := I.ok x (by simp)
  unfold costs
  rw [List.map_append, List.map_append, List.sum_append, List.sum_append]
  have hc : (cands n rs x.1).length + x.1.length ≤ n := by
    have nd : (cands n rs x.1 ++ x.1).Nodup := List.nodup_append.mpr ⟨List.nodup_range.filter _, hnd, fun a ha c hc => fun z => (mem_cands.mp ha).2.1 (z ▸ hc)⟩
    have := nodup_len nd fun y hy => by
      rcases List.mem_append.mp hy with h | h
      · exact (mem_cands.mp h).1
      · exact hlt y h
    simpa using this
  have hp : (push1 rs e x (cands n rs x.1)).length ≤ (cands n rs x.1).length := by
    unfold push1
    rw [List.length_map]
    exact List.length_filter_le _ _
  have hs : ((push1 rs e x (cands n rs x.1)).map fun y : Item => cost (n - y.1.length)).sum ≤ (push1 rs e x (cands n rs x.1)).length * cost (n - (x.1.length + 1)) := by
    have all : ∀ y ∈ push1 rs e x (cands n rs x.1), y.1.length = x.1.length + 1 := fun y hy => by
      obtain ⟨o, _, rfl⟩ := List.mem_map.mp hy
      simp
    generalize push1 rs e x (cands n rs x.1) = l at all
    induction l with
    | nil => simp
    | cons y l ih =>
      have h1 := all y List.mem_cons_self
      have h2 := ih fun z hz => all z (List.mem_cons_of_mem _ hz)
      rw [List.map_cons, List.sum_cons, h1, List.length_cons, Nat.add_mul, Nat.one_mul]
      omega
  have h1 : ([x].map fun y : Item => cost (n - y.1.length)).sum = cost (n - x.1.length) := by simp
  rw [h1]
  by_cases z : n - x.1.length = 0
  · have : (cands n rs x.1).length = 0 := by omega
    have l0 : (push1 rs e x (cands n rs x.1)).length = 0 := by omega
    rw [List.eq_nil_of_length_eq_zero l0, z]
    simp [cost]
  · obtain ⟨k, hk⟩ : ∃ k, n - x.1.length = k + 1 := ⟨n - x.1.length - 1, by omega⟩
    have hk2 : n - (x.1.length + 1) = k := by omega
    rw [hk2] at hs
    rw [hk]
    have : (push1 rs e x (cands n rs x.1)).length * cost k ≤ (k + 1) * cost k := Nat.mul_le_mul_right _ (by omega)
    show _ < _ + (1 + (k + 1) * cost k)
    omega
theorem inB_ord (st : Store) {o : Nat} (p : List Nat) : ninV2 st (.d (.int (o : Nat))) (.d (ordD p)) = some (.d (.bl (!decide (o ∈ p)))) := by
  unfold ninV2 inB
  show (match (none : Option (List Key × List D)) with
    | some (ks, ds) => (Mini.keyOf (.d (.int (o : Nat)))).map fun k => (lookD ks ds k).isSome
    | none => if flat (.int (o : Nat)) && (p.map nD).all flat then some ((p.map nD).any fun z => eqF z (.int (o : Nat))) else none).map _ = _
  simp only [flat_int, flat_nD, Bool.and_self, if_true, Option.map_some]
  congr 4
  rw [List.any_map]
  rw [Bool.eq_iff_iff, List.any_eq_true, decide_eq_true_eq]
  constructor
  · rintro ⟨z, hz, e⟩
    have : eqF (.int (z : Nat)) (.int (o : Nat)) = true := e
    rw [eqF_int, decide_eq_true_eq] at this
    have : z = o := by omega
    exact this ▸ hz
  · intro h
    exact ⟨o, h, by show eqF (.int (o : Nat)) (.int (o : Nat)) = true; rw [eqF_int]; simp⟩
theorem atI_m1 {α : Type} {xs : List α} {x : α} : atI (xs ++ [x]) (-1) = some x := by
  unfold atI ixN
  rw [if_neg (by decide), List.length_append, List.length_singleton, if_pos (by omega), Option.bind_some, show (-1 + ((xs.length + 1 : Nat) : Int)).toNat = xs.length by omega]
  simp
theorem ix_last (st : Store) {p : List Nat} (h : p ≠ []) : ixV st (.d (ordD p)) (.d (.int (-1))) = some (.d (nD (lastN p))) := by
  obtain ⟨l, v, hv⟩ : ∃ l v, p = l ++ [v] := by
    rcases List.eq_nil_or_concat p with h2 | ⟨l, v, h2⟩
    · exact absurd h2 h
    · exact ⟨l, v, by simpa using h2⟩
  subst hv
  unfold ordD
  rw [ixV_tup, List.map_append, List.map_singleton, atI_m1, lastN_snoc]
  rfl
theorem cost_le : ∀ k, k ≤ 5 → cost k ≤ 500 := by decide
theorem width_ok (st : Store) {b e : Nat} (hn : n ≤ 5) (h : RowsOk n rs) (hb0 : b < n) (he : e < n) (hbe : b ≠ e) : ∃ v : Int, callV d_L_width st [.d (.int (n : Nat)), .d (rowsD rs), .d (.int (b : Nat)), .d (.int (e : Nat))] = some (.d (.int v), st) ∧ Inv n rs b e v [] := by
  have hb := rngOf1_nat (n := n) (by omega)
  let R := fun (v : Int) (x y z u : Option Vl) => [some (Vl.d (.int (n : Nat))), some (.d (rowsD rs)), some (.d (.int (b : Nat))), some (.d (.int (e : Nat))), some (.d (matD n (M rs))), some (.d (.int v)), some (.r st.length), x, y, z, u]
  have key : ∃ v : Int, Inv n rs b e v [] ∧ Runs b_L_width [some (.d (.int (n : Nat))), some (.d (rowsD rs)), some (.d (.int (b : Nat))), some (.d (.int (e : Nat))), none, none, none, none, none, none, none] st fun fl _ s' => RetOk st.length (.int v) st fl s' := by
    have main : Runs (whLoop (mB (mOp gtV (mBi (one lenV1) (mCons (mVar 6) mNil)) (mC (.int 0)))) (mSeq (mUnp (gTp [(gNm 7), (gNm 8)]) (mMt popT (mVar 6) mNil))
      (mFor (iSeq (mLc (iAs rngOf1 (mCons (mVar 0) mNil)) (gNm 9) [9] (mAndT (mB (mOp ninV2 (mVar 9) (mVar 7))) (mB (mOp gtV (mOp ixV (mOp ixV (mVar 4) (mOp ixV (mVar 7) (mUn negV (mC (.int 1))))) (mVar 9)) (mC (.int 0))))) (mVar 9))) (gNm 9) (mSeq (mSet 10 (mBi (two minV2) (mCons (mVar 8) (mCons (mCall 3 d_L_over (mCons (mVar 1) (mCons (mOp ixV (mVar 7) (mUn negV (mC (.int 1)))) (mCons (mVar 9) mNil)))) mNil))))
      (mIf (mB (mOp eqV2 (mVar 9) (mVar 3))) (mSet 5 (mBi (two maxV2) (mCons (mVar 5) (mCons (mVar 10) mNil)))) (mDrop (mMt appendT (mVar 6) (mCons (mTup (mCons (mOp addV (mVar 7) (mTup (mCons (mVar 9) mNil))) (mCons (mVar 10) mNil))) mNil))))))) 100000)
      (R 0 none none none none) (st ++ [.lst ([([b], 1000000)].map itemD)]) (fun fl rho s' => fl = .nx ∧ ∃ v x y z u, rho = R v x y z u ∧ s' = st ++ [.lst []] ∧ Inv n rs b e v []) := by
      refine Runs.while_ (fun k rho s' => ∃ v x y z u wt, rho = R v x y z u ∧ s' = st ++ [.lst (wt.map itemD)] ∧ Inv n rs b e v wt ∧ k = costs n wt ∧ k ≤ 500) (costs n [([b], 1000000)]) ⟨0, none, none, none, none, _, rfl, rfl, ⟨?_, ?_, Int.le_refl _, fun t h1 h2 => by omega, ?_⟩, rfl, ?_⟩ ?_ ?_
      · intro x hx
        rw [List.mem_singleton.mp hx]
        exact ⟨by simp, by simp, by simpa using hb0, by simpa using Ne.symm hbe⟩
      · intro x hx t _ _
        rw [List.mem_singleton.mp hx]
        exact .refl
      · intro t vs h1 h2 sp
        refine .inr ⟨0, 1000000, ?_, ?_, h2⟩
        · have g1 := sp.hd
          have g2 := sp.la
          match vs, g1, g2 with
          | [x], g1, g2 =>
            simp at g1 g2
            exact absurd (g1.symm.trans g2) hbe
          | _ :: _ :: _, _, _ => simp
        · have g1 := sp.hd
          match vs, g1 with
          | x :: l, g1 =>
            simp at g1
            subst g1
            simp
      · have := cost_le (n - 1) (by omega)
        simpa [costs] using this
      · have := cost_le (n - 1) (by omega)
        have : costs n [([b], 1000000)] ≤ 500 := by simpa [costs] using this
        omega
      · rintro k rho s' ⟨v, x, y, z, u, wt, rfl, rfl, I, rfl, hk⟩
        refine ⟨!wt.isEmpty, st ++ [.lst (wt.map itemD)], ?_, fun hw => ?_, fun hw => ?_⟩
        · cases wt with
          | nil => simp [R]
          | cons a l => simp [R] <;> omega
        · have : wt = [] := by simpa using hw
          subst this
          exact ⟨rfl, v, x, y, z, u, rfl, rfl, I⟩
        · obtain ⟨wt, ⟨p, w⟩, rfl⟩ : ∃ l w, wt = l ++ [w] := by
            rcases List.eq_nil_or_concat wt with h | ⟨l, w, h⟩
            · subst h; simp at hw
            · exact ⟨l, w, by simpa using h⟩
          obtain ⟨hne, hnd, hlt, hex⟩ := I.ok (p, w) (by simp)
          have hpl : p.length ≤ n := nodup_len hnd hlt
          have hll : lastN p < n := by
            obtain ⟨l, v, hv⟩ : ∃ l v, p = l ++ [v] := by
              rcases List.eq_nil_or_concat p with h2 | ⟨l, v, h2⟩
              · exact absurd h2 hne
              · exact ⟨l, v, by simpa using h2⟩
            rw [hv, lastN_snoc]
            exact hlt v (by rw [hv]; simp)
          have cs := costs_step I
          have hwl : wt.length ≤ 500 := by
            have c1 : ∀ k, 1 ≤ cost k := fun k => by cases k <;> simp [cost]; all_goals omega
            have : ∀ l : List Item, l.length ≤ costs n l := fun l => by
              induction l with
              | nil => simp [costs]
              | cons a l ih =>
                have := c1 (n - a.1.length)
                unfold costs at ih ⊢
                rw [List.map_cons, List.sum_cons, List.length_cons]
                omega
            have := this (wt ++ [(p, w)])
            rw [List.length_append] at this
            omega
          refine Runs.seq (Runs.unp (d := itemD (p, w)) (st1 := st ++ [.lst (wt.map itemD)]) (rho' := R v (some (.d (ordD p))) (some (.d (.int w))) z u) (by simp [R]) (by simp [itemD, R]) ?_)
          refine Runs.for_ (cands n rs p) (fun (o : Nat) => Itm.one (.int (o : Nat))) (fun pre rho s' => ∃ z u, rho = R (best1 rs e (p, w) v pre) (some (.d (ordD p))) (some (.d (.int w))) z u ∧ s' = st ++ [.lst ((wt ++ push1 rs e (p, w) pre).map itemD)]) (st1 := st ++ [.lst (wt.map itemD)]) ?_ ⟨z, u, rfl, by simp [push1]⟩ ?_ ?_
          · simp
            rw [mLc_of (List.range n) (fun (k : Nat) => Itm.one (.int (k : Nat))) (fun o => decide (o ∉ p) && decide (M rs (lastN p) o > 0)) (fun o => .int (o : Nat))]
            · simp [cands]
            · simp [hb, R]
            · simp; omega
            · intro o ho
              have ho : o < n := by simpa using ho
              refine ⟨_, by simp [R]; rfl, ?_, fun _ => by simp⟩
              by_cases c : o ∈ p
              · simp [inB_ord, c]
              · simp [inB_ord, c, ix_last _ hne, nD, mat_ix _ hll, row_ix _ ho]
          · rintro pre o post rho s' hp ⟨z, u, rfl, rfl⟩
            obtain ⟨ho, hop, hoM⟩ := mem_cands.mp (show o ∈ cands n rs p by rw [hp]; simp)
            have hlen : (push1 rs e (p, w) pre).length ≤ 5 := by
              have h1 : (push1 rs e (p, w) pre).length ≤ pre.length := by
                unfold push1
                rw [List.length_map]
                exact List.length_filter_le _ _
              have h2 : (cands n rs p).length ≤ n := by
                unfold cands
                have := List.length_filter_le (fun o => decide (o ∉ p) && decide (M rs (lastN p) o > 0)) (List.range n)
                simpa using this
              rw [hp, List.length_append, List.length_cons] at h2
              omega
            refine ⟨R (best1 rs e (p, w) v pre) (some (.d (ordD p))) (some (.d (.int w))) (some (.d (.int (o : Nat)))) u, by simp [R], ?_⟩
            refine Runs.seq (Runs.set (x := .d (.int (here rs (p, w) o))) (st1 := st ++ [.lst ((wt ++ push1 rs e (p, w) pre).map itemD)]) ?_ ?_)
            · simp [R, ix_last _ hne, nD, over_ok _ h hll ho, here]
            · by_cases c : o = e
              · refine Runs.ifT (st1 := st ++ [.lst ((wt ++ push1 rs e (p, w) pre).map itemD)]) (by simp [R, c]) (Runs.set (x := .d (.int (max (best1 rs e (p, w) v pre) (here rs (p, w) o)))) (st1 := st ++ [.lst ((wt ++ push1 rs e (p, w) pre).map itemD)]) (by simp [R]) ⟨.inl rfl, some (.d (.int (o : Nat))), some (.d (.int (here rs (p, w) o))), ?_, ?_⟩)
                · simp [R, best1, c]
                · simp [push1, c]
              · refine Runs.ifF (st1 := st ++ [.lst ((wt ++ push1 rs e (p, w) pre).map itemD)]) (by simp [R]; omega) (Runs.drop (x := .d .non) (st1 := st ++ [.lst ((wt ++ push1 rs e (p, w) (pre ++ [o])).map itemD)]) ?_ ⟨.inl rfl, some (.d (.int (o : Nat))), some (.d (.int (here rs (p, w) o))), ?_, rfl⟩)
                · have l1 : wt.length + (push1 rs e (p, w) pre).length < lim := lim_gt (by omega)
                  have l2 : p.length + 1 ≤ lim := lim_ge (by omega)
                  have l1' : wt.length + (List.filter (fun o => !decide (o = e)) pre).length < lim := by simpa [push1] using l1
                  simp [R, ordD, nD, l1', l2, push1, c, itemD]
                · simp [R, best1, c]
          · rintro rho s' ⟨z, u, rfl, rfl⟩
            exact ⟨.inl rfl, _, cs, _, _, _, _, _, _, rfl, rfl, I.step, rfl, by omega⟩
    obtain ⟨fl, rho, s', e1, rfl, v, x, y, z, u, rfl, rfl, I⟩ := main
    refine ⟨v, I, ?_⟩
    refine Runs.seq (Runs.par (xs := [.d (matD n (M rs)), .d (.int 0), .r st.length]) (st1 := st ++ [.lst ([([b], 1000000)].map itemD)]) ?_ rfl ?_)
    · simp [Lmargins_ok _ hn h, itemD, ordD, nD]
    · refine Runs.seq (Runs.of e1 ?_)
      exact Runs.ret (x := .d (.int v)) (st1 := st ++ [.lst []]) (by simp [R]) (.v rfl ⟨_, rfl⟩)
  obtain ⟨v, I, h⟩ := key
  exact ⟨v, callV_run h, I⟩
end
end K53

set_option Elab.async false
set_option linter.all false
set_option maxRecDepth 100000
namespace K53
open PySem PySem.Spec PyProof.Rows L2 Mini
section
variable {n : Nat} {rs : List (Nat × List Nat)}
theorem drawN (h : Hand) {n : Nat} (hn : 0 < n) (hn2 : n < 1000000) (s : Store) : ∃ (k : Nat) (h' : Hand), k < n ∧ callV d_L_draw (.lst h.L :: s) [.r 0, .d (.int (n : Nat))] = some (.d (.int (k : Nat)), .lst (Hand.L h') :: s) := by
  have h1 := drawR_ge h (n : Nat) (by omega)
  have h2 := drawR_lt h (n : Nat) (by omega)
  refine ⟨(drawR h (n : Nat)).toNat, drawH h (n : Nat), by omega, ?_⟩
  rw [draw_ap h (n : Nat) (by omega) (by omega) s, Int.toNat_of_nonneg h1]
theorem perm_pop {xs : List Nat} {k : Nat} (hk : k < xs.length) : (xs[k] :: xs.eraseIdx k).Perm xs := by
  induction xs generalizing k with
  | nil => cases hk
  | cons x xs ih =>
    cases k with
    | zero => exact .refl _
    | succ k =>
      have := ih (k := k) (by simpa using hk)
      show ((xs[k]'(by simpa using hk)) :: x :: xs.eraseIdx k).Perm (x :: xs)
      exact (List.Perm.swap x _ _).trans (.cons x this)
theorem map_erase {α β : Type} (f : α → β) : ∀ (xs : List α) (j : Nat), (xs.map f).eraseIdx j = (xs.eraseIdx j).map f
  | [], _ => rfl
  | _ :: _, 0 => rfl
  | x :: xs, j + 1 => by
    show f x :: (xs.map f).eraseIdx j = f x :: (xs.eraseIdx j).map f
    rw [map_erase f xs j]
theorem mixed_ok (h : Hand) (s : Store) {xs : List Nat} (hx : xs.length ≤ 1000) : ∃ (ys : List Nat) (h' : Hand), callV d_L_mixed (.lst h.L :: s) [.r 0, .d (.lst (xs.map nD))] = some (.d (.lst (ys.map nD)), .lst (Hand.L h') :: s) ∧ ys.Perm xs := by
  have key : ∃ (ys : List Nat) (h' : Hand), ys.Perm xs ∧ Runs b_L_mixed [some (.r 0), some (.d (.lst (xs.map nD))), none, none] (.lst h.L :: s) fun fl _ s' => RetOk (s.length + 1) (.lst (ys.map nD)) (.lst (Hand.L h') :: s) fl s' := by
    have main : Runs (whLoop (mB (mOp gtV (mBi (one lenV1) (mCons (mVar 2) mNil)) (mC (.int 0)))) (mDrop (mMt appendT (mVar 3) (mCons (mMt popIT (mVar 2) (mCons (mCall 2 d_L_draw (mCons (mVar 0) (mCons (mBi (one lenV1) (mCons (mVar 2) mNil)) mNil))) mNil)) mNil))) 100000)
      [some (.r 0), some (.d (.lst (xs.map nD))), some (.r (s.length + 1)), some (.r (s.length + 2))] (.lst h.L :: (s ++ [.lst (xs.map nD), .lst (([] : List Nat).map nD)]))
      (fun fl rho s' => fl = .nx ∧ ∃ (ys : List Nat) (h' : Hand), rho = [some (.r 0), some (.d (.lst (xs.map nD))), some (.r (s.length + 1)), some (.r (s.length + 2))] ∧ s' = .lst (Hand.L h') :: (s ++ [.lst [], .lst (ys.map nD)]) ∧ ys.Perm xs) := by
      refine Runs.while_ (fun k rho s' => ∃ (rem fo : List Nat) (h' : Hand), rho = [some (.r 0), some (.d (.lst (xs.map nD))), some (.r (s.length + 1)), some (.r (s.length + 2))] ∧ s' = .lst (Hand.L h') :: (s ++ [.lst (rem.map nD), .lst (fo.map nD)]) ∧ (fo ++ rem).Perm xs ∧ k = rem.length) xs.length ⟨xs, [], h, rfl, rfl, by simp, rfl⟩ (by omega) ?_
      rintro k rho s' ⟨rem, fo, h', rfl, rfl, hp, rfl⟩
      have hl := hp.length_eq
      rw [List.length_append] at hl
      refine ⟨!rem.isEmpty, .lst (Hand.L h') :: (s ++ [.lst (rem.map nD), .lst (fo.map nD)]), ?_, fun hw => ?_, fun hw => ?_⟩
      · cases rem with
        | nil => simp
        | cons a l => simp <;> omega
      · have : rem = [] := by simpa using hw
        subst this
        exact ⟨rfl, fo, h', rfl, rfl, by simpa using hp⟩
      · have h0 : 0 < rem.length := by
          cases rem with
          | nil => simp at hw
          | cons a l => simp
        obtain ⟨j, h2, hj, e⟩ := drawN h' h0 (by omega) (s ++ [.lst (rem.map nD), .lst (fo.map nD)])
        have b1 : big62 (j : Nat) = true := big62_nat (by omega)
        have b2 : ixN rem.length (j : Nat) = some j := ixN_nat hj
        have b3 : rem[j]? = some rem[j] := List.getElem?_eq_getElem hj
        have b4 : fo.length < lim := lim_gt (by omega)
        have b5 : (rem.map nD).eraseIdx j = (rem.eraseIdx j).map nD := map_erase nD rem j
        have p2 := perm_pop hj
        refine Runs.drop (x := .d .non) (st1 := .lst h2.L :: (s ++ [.lst ((rem.eraseIdx j).map nD), .lst ((fo ++ [rem[j]]).map nD)])) ?_ ⟨.inl rfl, (rem.eraseIdx j).length, ?_, rem.eraseIdx j, fo ++ [rem[j]], h2, rfl, rfl, ?_, rfl⟩
        · simp [e, b1, b2, b3, b4, b5]
        · rw [List.length_eraseIdx_of_lt hj]; omega
        · refine List.Perm.trans ?_ hp
          rw [List.append_assoc]
          exact List.Perm.append_left fo p2
    obtain ⟨fl, rho, s', e1, rfl, ys, h', rfl, rfl, hp⟩ := main
    refine ⟨ys, h', hp, ?_⟩
    refine Runs.seq (Runs.par (xs := [.r (s.length + 1), .r (s.length + 2)]) (st1 := .lst h.L :: (s ++ [.lst (xs.map nD), .lst (([] : List Nat).map nD)])) ?_ rfl ?_)
    · simp
    · refine Runs.seq (Runs.of e1 ?_)
      refine Runs.ret (x := .r (s.length + 2)) (st1 := .lst (Hand.L h') :: (s ++ [.lst [], .lst (ys.map nD)])) (by simp) ?_
      exact .ref (st' := .lst (Hand.L h') :: s) [.lst [], .lst (ys.map nD)] (s.length + 2) (.lst (ys.map nD)) rfl (by omega) (by simp) rfl
  obtain ⟨ys, h', hp, hr⟩ := key
  exact ⟨ys, h', callV_run hr, hp⟩
theorem cut_tail {α : Type} (xs : List α) : Mini.cutD xs (some 1) none = xs.drop 1 := by
  unfold Mini.cutD
  rw [show HT.sIx xs.length 0 (some 1) = min 1 xs.length from HT.sIx_nat xs.length 0 1, HT.sIx_none]
  cases xs with
  | nil => rfl
  | cons x r =>
    rw [show min 1 (x :: r).length = 1 by rw [List.length_cons]; omega]
    show (List.take ((x :: r).length - 1) r) = r
    rw [List.length_cons, Nat.add_sub_cancel]
    exact List.take_length
theorem cut_head {α : Type} (xs : List α) : Mini.cutD xs none (some 1) = xs.take 1 := by
  unfold Mini.cutD
  rw [show HT.sIx xs.length xs.length (some 1) = min 1 xs.length from HT.sIx_nat xs.length xs.length 1, HT.sIx_none]
  cases xs with
  | nil => rfl
  | cons x r =>
    rw [show min 1 (x :: r).length = 1 by rw [List.length_cons]; omega]
    rfl
theorem some_ok (h : Hand) (s : Store) : ∃ (k : Nat) (h' : Hand), 1 ≤ k ∧ k ≤ 99 ∧ callV d_L_some (.lst h.L :: s) [.r 0, .d (.lst [.int 1, .int 4, .int 99])] = some (.d (.int (k : Nat)), .lst (Hand.L h') :: s) := by
  obtain ⟨k, h', hk, e⟩ := drawN h (n := 3) (by decide) (by decide) s
  have e' : callV d_L_draw (.lst h.L :: s) [.r 0, .d (.int 3)] = some (.d (.int (k : Nat)), .lst (Hand.L h') :: s) := e
  have go : ∀ v : Int, atI [D.int 1, .int 4, .int 99] (k : Nat) = some (.int v) → callV d_L_some (.lst h.L :: s) [.r 0, .d (.lst [.int 1, .int 4, .int 99])] = some (.d (.int v), .lst (Hand.L h') :: s) := fun v hv => by
    refine callV_of ?_ rfl
    unfold d_L_some b_L_some
    simp [e', hv]
  match k, hk with
  | 0, _ => exact ⟨1, h', by decide, by decide, go 1 rfl⟩
  | 1, _ => exact ⟨4, h', by decide, by decide, go 4 rfl⟩
  | 2, _ => exact ⟨99, h', by decide, by decide, go 99 rfl⟩
end
end K53

set_option Elab.async false
set_option linter.all false
set_option maxRecDepth 100000
namespace K53
open PySem PySem.Spec PyProof.Rows L2 Mini
section
variable {n : Nat} {rs : List (Nat × List Nat)}
/-- rows that may still be none -/
structure Rows0 (n : Nat) (rs : List (Nat × List Nat)) : Prop where
  perm : ∀ r ∈ rs, r.2.Perm (List.range n)
  tm : ∀ r ∈ rs, 1 ≤ r.1 ∧ r.1 ≤ 99
theorem Rows0.snoc (h : Rows0 n rs) {k : Nat} {o : List Nat} (h1 : 1 ≤ k) (h2 : k ≤ 99) (ho : o.Perm (List.range n)) : Rows0 n (rs ++ [(k, o)]) :=
  ⟨fun r hr => by
    rcases List.mem_append.mp hr with hr | hr
    · exact h.perm r hr
    · rw [List.mem_singleton.mp hr]; exact ho, fun r hr => by
    rcases List.mem_append.mp hr with hr | hr
    · exact h.tm r hr
    · rw [List.mem_singleton.mp hr]; exact ⟨h1, h2⟩⟩
theorem rot_perm {o : List Nat} : (o.drop 1 ++ o.take 1).Perm o := by
  have := List.perm_append_comm (l₁ := o.drop 1) (l₂ := o.take 1)
  rw [List.take_append_drop] at this
  exact this
theorem lst_range (n : Nat) : ((List.range n).map fun k => D.int (k : Nat)) = (List.range n).map nD := rfl
theorem ballots_ok (h : Hand) (s : Store) : ∃ (n : Nat) (rs : List (Nat × List Nat)) (h' : Hand), callV d_L_ballots (.lst h.L :: s) [.r 0, .d (.int 5)] = some (.d (.tup [nD n, rowsD rs]), .lst (Hand.L h') :: s) ∧ 1 ≤ n ∧ n ≤ 5 ∧ RowsOk n rs ∧ rs.length ≤ 6 := by
  obtain ⟨k1, h1, hk1, e1⟩ := drawN h (n := 5) (by decide) (by decide) s
  obtain ⟨k2, h2, hk2, e2⟩ := drawN h1 (n := 4) (by decide) (by decide) s
  obtain ⟨k3, h3, hk3, e3⟩ := drawN h2 (n := 6) (by decide) (by decide) (s ++ [.lst []])
  replace e1 : callV d_L_draw (.lst h.L :: s) [.r 0, .d (.int 5)] = some (.d (.int (k1 : Nat)), .lst (Hand.L h1) :: s) := e1
  replace e2 : callV d_L_draw (.lst h1.L :: s) [.r 0, .d (.int 4)] = some (.d (.int (k2 : Nat)), .lst (Hand.L h2) :: s) := e2
  replace e3 : callV d_L_draw (.lst h2.L :: (s ++ [.lst []])) [.r 0, .d (.int 6)] = some (.d (.int (k3 : Nat)), .lst (Hand.L h3) :: (s ++ [.lst []])) := e3
  have hn : 1 + k1 ≤ 5 := by omega
  generalize hnn : 1 + k1 = n at hn
  have e1n : (1 : Int) + (k1 : Int) = (n : Nat) := by omega
  generalize hmm : 1 + k3 = m
  have e3m : (1 : Int) + (k3 : Int) = (m : Nat) := by omega
  have hm6 : m ≤ 6 := by omega
  have hb := rngOf1_nat (n := m) (by omega)
  have key : ∃ (rs : List (Nat × List Nat)) (h' : Hand), Rows0 n rs ∧ rs.length = m ∧ Runs b_L_ballots [some (.r 0), some (.d (.int 5)), none, none, none, none, none] (.lst h.L :: s) fun fl _ s' => RetOk (s.length + 1) (.tup [nD n, rowsD rs]) (.lst (Hand.L h') :: s) fl s' := by
    have main : Runs (mFor (iAs rngOf1 (mCons (mOp addV (mC (.int 1)) (mCall 2 d_L_draw (mCons (mVar 0) (mCons (mC (.int 6)) mNil)))) mNil)) (gNm 5) (mSeq (mSet 6 (mBi (one tupV1) (mCons (mCall 2 d_L_mixed (mCons (mVar 0) (mCons (mLsRg1 (mVar 2)) mNil))) mNil)))
      (mSeq (mIf (mAndT (mB (mOp eqV2 (mVar 3) (mC (.int 0)))) (mB (mOp gtV (mBi (one lenV1) (mCons (mVar 4) mNil)) (mC (.int 0))))) (mSet 6 (mIfE (mB (mOp eqV2 (mCall 2 d_L_draw (mCons (mVar 0) (mCons (mC (.int 2)) mNil))) (mC (.int 0)))) (mOp addV (mSl (mOp ixV (mOp ixV (mVar 4) (mC (.int 0))) (mC (.int 1))) (mPart (mC (.int 1))) mNoP) (mSl (mOp ixV (mOp ixV (mVar 4) (mC (.int 0))) (mC (.int 1))) mNoP (mPart (mC (.int 1))))) (mUn revV (mOp ixV (mOp ixV (mVar 4) (mUn negV (mC (.int 1)))) (mC (.int 1)))))) mNext)
      (mDrop (mMt appendT (mVar 4) (mCons (mTup (mCons (mOp addV (mC (.int 1)) (mCall 2 d_L_draw (mCons (mVar 0) (mCons (mCall 2 d_L_some (mCons (mVar 0) (mCons (mLst (mCons (mC (.int 1)) (mCons (mC (.int 4)) (mCons (mC (.int 99)) mNil)))) mNil))) mNil)))) (mCons (mVar 6) mNil))) mNil))))))
      [some (.r 0), some (.d (.int 5)), some (.d (.int (n : Nat))), some (.d (.int (k2 : Nat))), some (.r (s.length + 1)), none, none] (.lst h2.L :: (s ++ [.lst []]))
      (fun fl rho s' => fl = .nx ∧ ∃ (x y : Option Vl) (rs : List (Nat × List Nat)) (h' : Hand), rho = [some (.r 0), some (.d (.int 5)), some (.d (.int (n : Nat))), some (.d (.int (k2 : Nat))), some (.r (s.length + 1)), x, y] ∧ s' = .lst (Hand.L h') :: (s ++ [.lst (rs.map rowD)]) ∧ Rows0 n rs ∧ rs.length = m) := by
      refine Runs.forN (n := m) (st1 := .lst h3.L :: (s ++ [.lst []])) (fun i rho s' => ∃ (x y : Option Vl) (rs : List (Nat × List Nat)) (h' : Hand), rho = [some (.r 0), some (.d (.int 5)), some (.d (.int (n : Nat))), some (.d (.int (k2 : Nat))), some (.r (s.length + 1)), x, y] ∧ s' = .lst (Hand.L h') :: (s ++ [.lst (rs.map rowD)]) ∧ Rows0 n rs ∧ rs.length = i)
        ?_ ⟨none, none, [], h3, rfl, rfl, ⟨fun r hr => (by cases hr), fun r hr => (by cases hr)⟩, rfl⟩ ?_ ?_
      · simp [e3, e3m, hb]
      · rintro i rho s' hi ⟨x, y, rs, h', rfl, rfl, R, rfl⟩
        refine ⟨_, by simp; rfl, ?_⟩
        obtain ⟨ys, g1, m1, p1⟩ := mixed_ok h' (s ++ [.lst (rs.map rowD)]) (xs := List.range n) (by simp; omega)
        refine Runs.seq (Runs.set (x := .d (ordD ys)) (st1 := .lst g1.L :: (s ++ [.lst (rs.map rowD)])) ?_ ?_)
        · have sr := smallR_nat (n := n) (by omega)
          have m1' : callV d_L_mixed (.lst h'.L :: (s ++ [.lst (rs.map rowD)])) [.r 0, .d (.lst ((List.range n).map fun k => D.int (k : Nat)))] = some (.d (.lst (ys.map nD)), .lst (Hand.L g1) :: (s ++ [.lst (rs.map rowD)])) := m1
          simp [sr, m1', ordD]
        · -- the order, drawn, turned or read backwards
          refine Runs.seq (Runs.mono (Q := fun fl rho s' => ∃ (o : List Nat) (g : Hand), fl = .nx ∧ o.Perm (List.range n) ∧ rho = [some (.r 0), some (.d (.int 5)), some (.d (.int (n : Nat))), some (.d (.int (k2 : Nat))), some (.r (s.length + 1)), some (.d (.int (rs.length : Nat))), some (.d (ordD o))] ∧ s' = .lst (Hand.L g) :: (s ++ [.lst (rs.map rowD)])) ?_ ?_)
          · by_cases c : k2 = 0 ∧ 0 < rs.length
            · obtain ⟨k4, g2, hk4, e4⟩ := drawN g1 (n := 2) (by decide) (by decide) (s ++ [.lst (rs.map rowD)])
              replace e4 : callV d_L_draw (.lst g1.L :: (s ++ [.lst (rs.map rowD)])) [.r 0, .d (.int 2)] = some (.d (.int (k4 : Nat)), .lst (Hand.L g2) :: (s ++ [.lst (rs.map rowD)])) := e4
              have r0 : rs[0]? = some rs[0] := List.getElem?_eq_getElem c.2
              have q0 := R.perm rs[0] (List.getElem_mem c.2)
              have l0 : rs[0].2.length ≤ 5 := by rw [q0.length_eq, List.length_range]; exact hn
              refine Runs.ifT (st1 := .lst g1.L :: (s ++ [.lst (rs.map rowD)])) (by simp [c.1, c.2]) ?_
              by_cases d : k4 = 0
              · refine Runs.set (x := .d (ordD (rs[0].2.drop 1 ++ rs[0].2.take 1))) (st1 := .lst g2.L :: (s ++ [.lst (rs.map rowD)])) ?_ ⟨_, g2, rfl, rot_perm.trans q0, rfl, rfl⟩
                have a0 : atI (rs.map rowD) 0 = some (rowD rs[0]) := by
                  have := atI_nat' (xs := rs.map rowD) (j := 0) (by simpa using c.2)
                  rw [show ((0 : Nat) : Int) = 0 from rfl] at this
                  rw [this, List.getElem_map]
                have a1 : atI [D.int (rs[0].1 : Nat), D.tup (rs[0].2.map nD)] 1 = some (D.tup (rs[0].2.map nD)) := rfl
                have ll : (List.drop 1 (rs[0].2.map nD)).length + (List.take 1 (rs[0].2.map nD)).length ≤ lim := lim_ge (by simp; omega)
                simp [e4, d, a0, rowD, a1, ordD, cut_tail, cut_head] at ll ⊢
                exact Nat.le_trans (by omega) (lim_ge (n := 12) (by decide))
              · have rl : rs[rs.length - 1]? = some rs[rs.length - 1] := List.getElem?_eq_getElem (by omega)
                have q1 := R.perm rs[rs.length - 1] (List.getElem_mem (by omega))
                refine Runs.set (x := .d (ordD rs[rs.length - 1].2.reverse)) (st1 := .lst g2.L :: (s ++ [.lst (rs.map rowD)])) ?_ ⟨_, g2, rfl, (List.reverse_perm _).trans q1, rfl, rfl⟩
                have a0 : atI (rs.map rowD) (-1) = some (rowD rs[rs.length - 1]) := by
                  have hne : rs ≠ [] := fun z => by rw [z] at c; simp at c
                  have e : rs = rs.dropLast ++ [rs[rs.length - 1]] := by
                    have := List.dropLast_concat_getLast hne
                    rw [List.getLast_eq_getElem] at this
                    exact this.symm
                  have e2 : rs.map rowD = rs.dropLast.map rowD ++ [rowD rs[rs.length - 1]] := by
                    rw [← List.map_singleton (f := rowD), ← List.map_append, ← e]
                  rw [e2]
                  exact atI_m1
                have a1 : atI [D.int (rs[rs.length - 1].1 : Nat), ordD rs[rs.length - 1].2] 1 = some (ordD rs[rs.length - 1].2) := rfl
                simp [e4, d, a0, rowD, a1]
                unfold ordD
                rw [revV_tup, List.map_reverse]
            · refine Runs.ifF (st1 := .lst g1.L :: (s ++ [.lst (rs.map rowD)])) ?_ (Runs.next ⟨ys, g1, rfl, p1, rfl, rfl⟩)
              by_cases d : k2 = 0
              · have : rs.length = 0 := by omega
                simp [d, this]
              · simp [d]
          · rintro fl rho s' ⟨o, g2, rfl, po, rfl, rfl⟩
            obtain ⟨k5, g3, h51, h52, e5⟩ := some_ok g2 (s ++ [.lst (rs.map rowD)])
            obtain ⟨k6, g4, hk6, e6⟩ := drawN g3 (n := k5) (by omega) (by omega) (s ++ [.lst (rs.map rowD)])
            have l1 : rs.length < lim := lim_gt (by omega)
            refine Runs.drop (x := .d .non) (st1 := .lst g4.L :: (s ++ [.lst ((rs ++ [(1 + k6, o)]).map rowD)])) ?_ ⟨.inl rfl, _, _, rs ++ [(1 + k6, o)], g4, rfl, rfl, R.snoc (by omega) (by omega) po, by simp⟩
            simp [e5, e6, l1, rowD]
      · rintro rho s' ⟨x, y, rs, h', rfl, rfl, R, hl⟩
        exact ⟨rfl, x, y, rs, h', rfl, rfl, R, hl⟩
    obtain ⟨fl, rho, s', e, rfl, x, y, rs, h', rfl, rfl, R, hl⟩ := main
    refine ⟨rs, h', R, hl, ?_⟩
    refine Runs.seq (Runs.set (x := .d (.int (n : Nat))) (st1 := .lst h1.L :: s) (by simp [e1, e1n]) ?_)
    refine Runs.seq (Runs.par (xs := [.d (.int (k2 : Nat)), .r (s.length + 1)]) (st1 := .lst h2.L :: (s ++ [.lst []])) (by simp [e2]) rfl ?_)
    refine Runs.seq (Runs.of e ?_)
    exact Runs.ret (x := .d (.tup [nD n, rowsD rs])) (st1 := .lst (Hand.L h') :: (s ++ [.lst (rs.map rowD)])) (by simp [nD, rowsD]) (.v rfl ⟨[.lst (rs.map rowD)], rfl⟩)
  obtain ⟨rs, h', R, hl, hr⟩ := key
  exact ⟨n, rs, h', callV_run hr, by omega, hn, ⟨R.perm, R.tm, by omega, by omega⟩, by omega⟩
end
end K53

set_option Elab.async false
set_option linter.all false
set_option maxRecDepth 100000
namespace K53
open PySem PySem.Spec PyProof.Rows L2 Mini
section
variable {n : Nat} {rs : List (Nat × List Nat)}
theorem E0_nn (a b : Nat) : 0 ≤ E0 rs a b := by
  unfold E0
  split <;> omega
theorem fw_nn (k a b : Nat) : 0 ≤ fw (E0 rs) k a b := Int.le_trans (E0_nn a b) (fw_ge _ a b k)
theorem W_le (h : RowsOk n rs) (a b : Nat) : W rs a b ≤ 1188 := by
  have key : ∀ l : List (Nat × List Nat), (∀ r ∈ l, r.1 ≤ 99) → ((l.filter fun r => decide (r.2.idxOf a < r.2.idxOf b)).map (·.1)).sum ≤ 99 * l.length := by
    intro l
    induction l with
    | nil => intro _; simp
    | cons r l ih =>
      intro hl
      have h1 := ih fun x hx => hl x (List.mem_cons_of_mem _ hx)
      have h2 := hl r List.mem_cons_self
      rw [List.length_cons]
      rw [List.filter_cons]
      split
      · rw [List.map_cons, List.sum_cons]
        omega
      · omega
  have := key rs fun r hr => (h.tm r hr).2
  have := h.most
  unfold W
  omega
theorem E0_le (h : RowsOk n rs) (a b : Nat) : E0 rs a b ≤ 1188 := by
  have := W_le h a b
  unfold E0
  split <;> omega
theorem Re.last {R : Nat → Nat → Prop} {a b : Nat} (h : Re R a b) (hab : a ≠ b) : ∃ c, R c b := by
  cases h with
  | refl => exact absurd rfl hab
  | step _ e => exact ⟨_, e⟩
/-- the law's own width is the table's -/
theorem width_eq (h : RowsOk n rs) {a b : Nat} {v : Int} (ha : a < n) (hb : b < n) (hab : a ≠ b) (I : Inv n rs a b v []) : v = fw (E0 rs) n a b := by
  refine int_ext fun t => ?_
  by_cases ht : 1 ≤ t
  · rw [fw_iff (E0 rs) t ha hb hab]
    refine ⟨I.so t ht, fun r => ?_⟩
    have hm : t ≤ 1000000 := by
      obtain ⟨c, e⟩ := r.last hab
      have := E0_le h c b
      have := e.2.2
      omega
    obtain ⟨p, sp⟩ := SP.of_Re r
    rcases I.co t p ht hm sp with h | ⟨_, _, _, h, _⟩
    · exact h
    · cases h
  · have := I.nn
    have := fw_nn (rs := rs) n a b
    omega
/-! ### the judge's other questions -/
theorem mem_winners {g : Nat → Nat → Int} {a : Nat} : a ∈ winners n g ↔ a < n ∧ ∀ b, b < n → g b a ≤ g a b := by
  unfold winners
  rw [List.mem_filter, List.mem_range, List.all_eq_true]
  refine and_congr_right fun _ => ⟨fun h b hb => by simpa using h b (List.mem_range.mpr hb), fun h b hb => by simpa using h b (List.mem_range.mp hb)⟩
theorem winners_ne (hn : 0 < n) : winners n (fw (E0 rs) n) ≠ [] := by
  obtain ⟨a, h1, h2⟩ := exists_win (g := fw (E0 rs) n) (fun m hm a b => fw_closed (E0 rs) n m hm a b) hn
  intro e
  have : a ∈ winners n (fw (E0 rs) n) := mem_winners.mpr ⟨h1, h2⟩
  rw [e] at this
  cases this
theorem M_neg (a b : Nat) : M rs a b = - M rs b a := by unfold M; omega
/-- from a lot that all within beat all without nothing leads in -/
theorem no_way_in {S : Nat → Prop} (hS : ∀ x, S x → x < n → ∀ y, y < n → ¬ S y → M rs x y > 0) {a b : Nat} (ha : a < n) (hb : b < n) (hSa : ¬ S a) (hSb : S b) : fw (E0 rs) n a b ≤ 0 := by
  have key : ∀ y, Re (Edg n (E0 rs) 1) a y → ¬ S y := by
    intro y r
    induction r with
    | refl => exact hSa
    | @step y z _ e ih =>
      intro hz
      have h1 := ((E0_pos (rs := rs) (by decide : (1 : Int) ≤ 1)).mp e.2.2).1
      have h2 := hS z hz e.2.1 y e.1 ih
      rw [M_neg] at h2
      omega
  by_cases c : (1 : Int) ≤ fw (E0 rs) n a b
  · by_cases e : a = b
    · exact absurd hSb (e ▸ hSa)
    · exact absurd hSb (key b ((fw_iff (E0 rs) 1 ha hb e).mp c))
  · omega
theorem win_edge {a b : Nat} (h : M rs a b > 0) : 1 ≤ fw (E0 rs) n a b := by
  have h1 := fw_ge (E0 rs) a b n
  have : 1 ≤ E0 rs a b := (E0_pos (by decide)).mpr ⟨h, by unfold M at h; omega⟩
  omega
theorem win_in_lot {S : List Nat} (L : Lot n (M rs) S) {a : Nat} (h : a ∈ winners n (fw (E0 rs) n)) : a ∈ S := by
  obtain ⟨ha, h2⟩ := mem_winners.mp h
  by_cases c : a ∈ S
  · exact c
  · exfalso
    obtain ⟨x, hx⟩ : ∃ x, x ∈ S := by
      cases hS : S with
      | nil => exact absurd hS L.ne
      | cons x l => exact ⟨x, List.mem_cons_self⟩
    have hxn := L.lt x hx
    have beats : ∀ x, x ∈ S → x < n → ∀ y, y < n → ¬ y ∈ S → M rs x y > 0 := fun x hx _ y hy hn => by
      by_cases d : M rs x y ≤ 0
      · exact absurd (L.cl x hx y hy d) hn
      · omega
    have h3 := no_way_in (S := fun x => x ∈ S) beats ha hxn c hx
    have h4 : 1 ≤ fw (E0 rs) n x a := win_edge (beats x hx hxn a ha c)
    have := h2 x hxn
    omega
theorem filter_one (p : Nat → Bool) {a : Nat} (ha : a < n) (h : ∀ b, b < n → (p b = true ↔ b = a)) : (List.range n).filter p = [a] := by
  have nd : ((List.range n).filter p).Nodup := List.nodup_range.filter _
  have pm : ((List.range n).filter p).Perm [a] := (List.perm_ext_iff_of_nodup nd (by simp)).mpr fun b => by
    rw [List.mem_filter, List.mem_range, List.mem_singleton]
    exact ⟨fun ⟨h1, h2⟩ => (h b h1).mp h2, fun e => by subst e; exact ⟨ha, (h b ha).mpr rfl⟩⟩
  exact List.perm_singleton.mp pm
theorem beater_win {a : Nat} {l : List Nat} (h : beaters n rs = a :: l) : winners n (fw (E0 rs) n) = [a] := by
  have hm : a ∈ beaters n rs := by rw [h]; exact List.mem_cons_self
  unfold beaters at hm
  obtain ⟨ha, hall⟩ := List.mem_filter.mp hm
  have ha : a < n := List.mem_range.mp ha
  have beats : ∀ b, b < n → b ≠ a → M rs a b > 0 := fun b hb hne => by
    have := List.all_eq_true.mp hall b (List.mem_filter.mpr ⟨List.mem_range.mpr hb, by simpa using hne⟩)
    simpa using this
  have into : ∀ b, b < n → b ≠ a → fw (E0 rs) n b a ≤ 0 := fun b hb hne =>
    no_way_in (S := fun x => x = a) (fun x hx _ y hy hn => by subst hx; exact beats y hy hn) hb ha hne rfl
  refine filter_one _ ha fun b hb => ?_
  rw [List.all_eq_true]
  constructor
  · intro hall
    by_cases e : b = a
    · exact e
    · have h1 := hall a (List.mem_range.mpr ha)
      have h2 := into b hb e
      have h3 : 1 ≤ fw (E0 rs) n a b := win_edge (beats b hb e)
      simp at h1
      omega
  · rintro rfl c hc
    have hc := List.mem_range.mp hc
    by_cases e : c = b
    · subst e; simp
    · have h2 := into c hc e
      have h3 := fw_nn (rs := rs) n b c
      simp
      omega
/-! ### called otherwise -/
theorem fw_map {f f' : Nat → Nat → Int} {π : Nat → Nat} (hπ : ∀ a, a < n → π a < n) (inj : ∀ a b, a < n → b < n → π a = π b → a = b) (sur : ∀ x, x < n → ∃ a, a < n ∧ π a = x) (hf : ∀ a b, a < n → b < n → f' (π a) (π b) = f a b) {a b : Nat} (ha : a < n) (hb : b < n) (hab : a ≠ b) :
    fw f' n (π a) (π b) = fw f n a b := by
  refine int_ext fun t => ?_
  rw [fw_iff f t ha hb hab, fw_iff f' t (hπ a ha) (hπ b hb) fun e => hab (inj a b ha hb e)]
  constructor
  · intro r
    have key : ∀ y, Re (Edg n f' t) (π a) y → ∃ c, c < n ∧ π c = y ∧ Re (Edg n f t) a c := by
      intro y r
      induction r with
      | refl => exact ⟨a, ha, rfl, .refl⟩
      | @step y z _ e ih =>
        obtain ⟨c, hc, rfl, rc⟩ := ih
        obtain ⟨d, hd, rfl⟩ := sur z e.2.1
        exact ⟨d, hd, rfl, .step rc ⟨hc, hd, by rw [← hf c d hc hd]; exact e.2.2⟩⟩
    obtain ⟨c, hc, e, rc⟩ := key _ r
    exact inj c b hc hb e ▸ rc
  · intro r
    induction r with
    | refl => exact absurd rfl hab
    | @step y z r e ih =>
      have hy := e.1
      have e' : Edg n f' t (π y) (π z) := ⟨hπ y hy, hπ z hb, by rw [hf y z hy hb]; exact e.2.2⟩
      by_cases c : a = y
      · subst c; exact .one e'
      · exact .step (ih hy c) e'
/-! ### one thing more, last of all -/
theorem fw_more {f f' : Nat → Nat → Int} (hf : ∀ a b, a < n → b < n → f' a b = f a b) (h0 : ∀ b, b ≤ n → f' n b ≤ 0) (nn : ∀ k a b, 0 ≤ fw f k a b) (nn' : ∀ k a b, 0 ≤ fw f' k a b) {a b : Nat} (ha : a < n) (hb : b < n) (hab : a ≠ b) : fw f' (n + 1) a b = fw f n a b := by
  refine int_ext fun t => ?_
  by_cases ht : 1 ≤ t
  · rw [fw_iff f t ha hb hab, fw_iff (n := n + 1) f' t (by omega) (by omega) hab]
    have key : ∀ y, Re (Edg (n + 1) f' t) a y → y < n → Re (Edg n f t) a y := by
      intro y r
      induction r with
      | refl => intro _; exact .refl
      | @step y z _ e ih =>
        intro hz
        have hy : y < n := by
          by_cases c : y = n
          · subst c
            have := h0 z (by omega)
            have := e.2.2
            omega
          · have := e.1; omega
        exact .step (ih hy) ⟨hy, hz, by rw [← hf y z hy hz]; exact e.2.2⟩
    refine ⟨fun r => key b r hb, fun r => ?_⟩
    have : ∀ y, Re (Edg n f t) a y → Re (Edg (n + 1) f' t) a y := by
      intro y r
      induction r with
      | refl => exact .refl
      | @step y z _ e ih => exact .step ih ⟨by have := e.1; omega, by have := e.2.1; omega, by rw [hf y z e.1 e.2.1]; exact e.2.2⟩
    exact this b r
  · have := nn n a b
    have := nn' (n + 1) a b
    omega
theorem fw_out {f' : Nat → Nat → Int} (h0 : ∀ b, b ≤ n → f' n b ≤ 0) {b : Nat} (hb : b < n) : fw f' (n + 1) n b ≤ 0 := by
  by_cases c : (1 : Int) ≤ fw f' (n + 1) n b
  · have r := (fw_iff (n := n + 1) f' 1 (by omega) (by omega) (by omega)).mp c
    exfalso
    have : ∀ y, Re (Edg (n + 1) f' 1) n y → y = n := by
      intro y r
      induction r with
      | refl => rfl
      | @step y z _ e ih =>
        subst ih
        have := h0 z (by have := e.2.1; omega)
        have := e.2.2
        omega
    have := this b r
    omega
  · omega
end
end K53

set_option Elab.async false
set_option linter.all false
set_option maxRecDepth 100000
namespace K53
open PySem PySem.Spec PyProof.Rows L2 Mini
section
variable {n : Nat} {rs : List (Nat × List Nat)}
/-- the ballots, things called π -/
def renR (π : Nat → Nat) (rs : List (Nat × List Nat)) : List (Nat × List Nat) := rs.map fun r => (r.1, r.2.map π)
theorem idxOf_map {π : Nat → Nat} {a : Nat} : ∀ {o : List Nat}, (∀ x ∈ o, π x = π a → x = a) → (o.map π).idxOf (π a) = o.idxOf a
  | [], _ => rfl
  | x :: o, h => by
    rw [List.map_cons, List.idxOf_cons, List.idxOf_cons]
    by_cases c : x = a
    · subst c; simp
    · have : ¬ π x = π a := fun e => c (h x List.mem_cons_self e)
      rw [idxOf_map fun y hy => h y (List.mem_cons_of_mem _ hy)]
      rw [beq_false_of_ne c, beq_false_of_ne this]
theorem W_ren {π : Nat → Nat} (h : RowsOk n rs) (inj : ∀ a b, a < n → b < n → π a = π b → a = b) {a b : Nat} (ha : a < n) (hb : b < n) : W (renR π rs) (π a) (π b) = W rs a b := by
  have key : ∀ l : List (Nat × List Nat), (∀ r ∈ l, r.2.Perm (List.range n)) → W (renR π l) (π a) (π b) = W l a b := by
    intro l hl
    unfold W renR
    induction l with
    | nil => rfl
    | cons r l ih =>
      have ih := ih fun x hx => hl x (List.mem_cons_of_mem _ hx)
      have hm : ∀ x ∈ r.2, x < n := fun x hx => List.mem_range.mp ((hl r List.mem_cons_self).mem_iff.mp hx)
      have e1 : (r.2.map π).idxOf (π a) = r.2.idxOf a := idxOf_map fun x hx e => inj x a (hm x hx) ha e
      have e2 : (r.2.map π).idxOf (π b) = r.2.idxOf b := idxOf_map fun x hx e => inj x b (hm x hx) hb e
      rw [List.map_cons, List.filter_cons, List.filter_cons]
      simp only [e1, e2]
      split
      · rw [List.map_cons, List.map_cons, List.sum_cons, List.sum_cons, ih]
      · exact ih
  exact key rs h.perm
theorem perm_map_range {π : Nat → Nat} (hπ : ∀ a, a < n → π a < n) (inj : ∀ a b, a < n → b < n → π a = π b → a = b) : ((List.range n).map π).Perm (List.range n) := by
  have nd : ((List.range n).map π).Nodup := by
    unfold List.Nodup
    rw [List.pairwise_map]
    exact List.Pairwise.imp_of_mem (fun {a b} ha hb hab e => hab (inj a b (List.mem_range.mp ha) (List.mem_range.mp hb) e)) List.nodup_range
  have sub : ((List.range n).map π) ⊆ List.range n := fun x hx => by
    obtain ⟨a, ha, rfl⟩ := List.mem_map.mp hx
    exact List.mem_range.mpr (hπ a (List.mem_range.mp ha))
  refine (List.perm_ext_iff_of_nodup nd List.nodup_range).mpr fun x => ⟨fun h => sub h, fun hx => ?_⟩
  by_cases c : x ∈ (List.range n).map π
  · exact c
  · exfalso
    have := List.Nodup.length_le_of_subset (List.nodup_cons.mpr ⟨c, nd⟩) (l₂ := List.range n) fun y hy => by
      rcases List.mem_cons.mp hy with rfl | hy
      · exact hx
      · exact sub hy
    simp at this
    omega
theorem ren_ok {π : Nat → Nat} (h : RowsOk n rs) (hπ : ∀ a, a < n → π a < n) (inj : ∀ a b, a < n → b < n → π a = π b → a = b) : RowsOk n (renR π rs) := by
  refine ⟨fun r hr => ?_, fun r hr => ?_, by simpa [renR] using h.one, by simpa [renR] using h.most⟩
  · obtain ⟨r0, h0, rfl⟩ := List.mem_map.mp hr
    exact ((h.perm r0 h0).map π).trans (perm_map_range hπ inj)
  · obtain ⟨r0, h0, rfl⟩ := List.mem_map.mp hr
    exact h.tm r0 h0
theorem called_ok (h : Hand) (s : Store) (hn : n ≤ 5) (hr : RowsOk n rs) : ∃ (ys : List Nat) (h' : Hand), ys.Perm (List.range n) ∧
    callV d_L_called (.lst h.L :: s) [.r 0, .d (.int (n : Nat)), .d (rowsD rs)] = some (.d (.tup [.lst (ys.map nD), rowsD (renR (fun k => ys.getD k 0) rs)]), .lst (Hand.L h') :: s) := by
  obtain ⟨ys, h', e, p⟩ := mixed_ok h s (xs := List.range n) (by simp; omega)
  refine ⟨ys, h', p, callV_of ?_ rfl⟩
  have e' : callV d_L_mixed (.lst h.L :: s) [.r 0, .d (.lst ((List.range n).map fun k => D.int (k : Nat)))] = some (.d (.lst (ys.map nD)), .lst (Hand.L h') :: s) := e
  have sr := smallR_nat (n := n) (by omega)
  have hy : ys.length = n := by rw [p.length_eq, List.length_range]
  unfold d_L_called b_L_called rowsD
  simp [e', sr]
  rw [mLc_all rs (fun r => .one (rowD r)) (fun r => rowD (r.1, r.2.map fun k => ys.getD k 0))]
  · simp [renR]
  · simp
  · have := hr.most; omega
  · intro r hrm
    refine ⟨_, by simp [rowD]; rfl, ?_⟩
    simp
    rw [mLc_all r.2 (fun k => .one (nD k)) (fun k => nD (ys.getD k 0))]
    · simp [rowD, ordD]
    · simp [ordD]
    · have := (hr.perm r hrm).length_eq
      rw [List.length_range] at this
      omega
    · intro k hk
      have hk : k < ys.length := by rw [hy]; exact (hr.mem hrm).mp hk
      refine ⟨_, by simp [nD]; rfl, ?_⟩
      have : atI (ys.map nD) (k : Nat) = some (nD (ys.getD k 0)) := by
        rw [atI_nat' (by simpa using hk), List.getElem_map]
        simp [List.getD, hk]
      simp [this]
/-! ### _law_is -/
theorem is_int (st : Store) (k : Nat) (i : Int) : callV (d_L_is (k + 1)) st [.d (.int i), .d (.int i)] = some (.d (.bl true), st) := by
  refine callV_same ?_
  unfold d_L_is b_L_is
  simp
theorem is_ord (st : Store) (k : Nat) {o : List Nat} (ho : o.length ≤ 1000) : callV (d_L_is (k + 2)) st [.d (ordD o), .d (ordD o)] = some (.d (.bl true), st) := by
  refine callV_same ?_
  have e : (o.map nD).zip (o.map nD) = o.map fun x => (nD x, nD x) := by
    rw [List.zip_map, List.zip_eq_zipWith, List.zipWith_self, List.map_map]
    rfl
  show runD 4 (b_L_is (d_L_is (k + 1))) st _ = _
  unfold b_L_is ordD
  simp
  rw [mLc_all o (fun x => .pair (nD x) (nD x)) (fun _ => .bl true)]
  · rw [show (o.map fun _ => D.bl true) = o.map fun a => D.bl ((fun _ => true) a) from rfl]
    simp [blsOf_of]
  · simp [zipOf_tup, e]
  · omega
  · intro x _
    exact ⟨_, by simp [nD]; rfl, by simp [is_int]⟩
end
end K53

set_option Elab.async false
set_option linter.all false
set_option maxRecDepth 100000
namespace K53
open PySem PySem.Spec PyProof.Rows L2 Mini
section
variable {n : Nat} {rs : List (Nat × List Nat)}
theorem width_val (st : Store) (hn : n ≤ 5) (h : RowsOk n rs) {a b : Nat} (ha : a < n) (hb : b < n) (hab : a ≠ b) : callV d_L_width st [.d (.int (n : Nat)), .d (rowsD rs), .d (.int (a : Nat)), .d (.int (b : Nat))] = some (.d (.int (fw (E0 rs) n a b)), st) := by
  obtain ⟨v, e, I⟩ := width_ok st hn h ha hb hab
  rw [e, width_eq h ha hb hab I]
/-! one thing more -/
def moreR (n : Nat) (rs : List (Nat × List Nat)) : List (Nat × List Nat) := rs.map fun r => (r.1, r.2 ++ [n])
theorem more_ok (h : RowsOk n rs) : RowsOk (n + 1) (moreR n rs) := by
  refine ⟨fun r hr => ?_, fun r hr => ?_, by simpa [moreR] using h.one, by simpa [moreR] using h.most⟩
  · obtain ⟨r0, h0, rfl⟩ := List.mem_map.mp hr
    rw [List.range_succ]
    exact (h.perm r0 h0).append_right [n]
  · obtain ⟨r0, h0, rfl⟩ := List.mem_map.mp hr
    exact h.tm r0 h0
theorem W_more (h : RowsOk n rs) {a b : Nat} (ha : a < n) (hb : b < n) : W (moreR n rs) a b = W rs a b := by
  have key : ∀ l : List (Nat × List Nat), (∀ r ∈ l, r.2.Perm (List.range n)) → W (moreR n l) a b = W l a b := by
    intro l hl
    unfold W moreR
    induction l with
    | nil => rfl
    | cons r l ih =>
      have ih := ih fun x hx => hl x (List.mem_cons_of_mem _ hx)
      have hp := hl r List.mem_cons_self
      have e1 : (r.2 ++ [n]).idxOf a = r.2.idxOf a := by rw [List.idxOf_append, if_pos (hp.mem_iff.mpr (List.mem_range.mpr ha))]
      have e2 : (r.2 ++ [n]).idxOf b = r.2.idxOf b := by rw [List.idxOf_append, if_pos (hp.mem_iff.mpr (List.mem_range.mpr hb))]
      rw [List.map_cons, List.filter_cons, List.filter_cons]
      simp only [e1, e2]
      split
      · rw [List.map_cons, List.map_cons, List.sum_cons, List.sum_cons, ih]
      · exact ih
  exact key rs h.perm
theorem idx_new {r : Nat × List Nat} (hp : r.2.Perm (List.range n)) {b : Nat} (hb : b ≤ n) : (r.2 ++ [n]).idxOf b ≤ n ∧ (r.2 ++ [n]).idxOf n = n ∧ (b < n → (r.2 ++ [n]).idxOf b < n) := by
  have hl : r.2.length = n := by rw [hp.length_eq, List.length_range]
  have hn : ¬ n ∈ r.2 := fun h => by
    have := List.mem_range.mp (hp.mem_iff.mp h)
    omega
  have e : (r.2 ++ [n]).idxOf n = n := by rw [List.idxOf_append, if_neg hn]; simp [hl]
  have lt : b < n → (r.2 ++ [n]).idxOf b < n := fun hb => by
    have hm : b ∈ r.2 := hp.mem_iff.mpr (List.mem_range.mpr hb)
    rw [List.idxOf_append, if_pos hm]
    have := List.idxOf_lt_length_iff.mpr hm
    omega
  refine ⟨?_, e, lt⟩
  by_cases c : b = n
  · subst c; omega
  · have := lt (by omega); omega
theorem W_last (h : RowsOk n rs) {b : Nat} (hb : b ≤ n) : W (moreR n rs) n b = 0 := by
  unfold W moreR
  rw [List.filter_eq_nil_iff.mpr]
  · rfl
  · intro r hr
    obtain ⟨r0, h0, rfl⟩ := List.mem_map.mp hr
    obtain ⟨h1, h2, _⟩ := idx_new (h.perm r0 h0) hb
    simp
    omega
theorem W_first (h : RowsOk n rs) {a : Nat} (ha : a < n) : 1 ≤ W (moreR n rs) a n := by
  unfold W moreR
  rw [List.filter_eq_self.mpr]
  · obtain ⟨r, l, e⟩ : ∃ r l, rs = r :: l := by
      cases hr : rs with
      | nil => have := h.one; rw [hr] at this; simp at this
      | cons r l => exact ⟨r, l, rfl⟩
    have := (h.tm r (by rw [e]; simp)).1
    rw [e]
    simp
    omega
  · intro r hr
    obtain ⟨r0, h0, rfl⟩ := List.mem_map.mp hr
    obtain ⟨_, h2, h3⟩ := idx_new (h.perm r0 h0) (b := a) (by omega)
    have := h3 ha
    simp
    omega
theorem E0_of {rs rs' : List (Nat × List Nat)} {a b a' b' : Nat} (h : a = b ↔ a' = b') (h1 : W rs a b = W rs' a' b') (h2 : W rs b a = W rs' b' a') : E0 rs a b = E0 rs' a' b' := by
  unfold E0
  rw [h1, h2]
  by_cases c : a = b
  · rw [if_pos (.inl c), if_pos (.inl (h.mp c))]
  · have c' : ¬ a' = b' := fun z => c (h.mpr z)
    simp [c, c']
theorem more_win (h : RowsOk n rs) (hn : 1 ≤ n) : winners (n + 1) (fw (E0 (moreR n rs)) (n + 1)) = winners n (fw (E0 rs) n) := by
  have hf : ∀ a b, a < n → b < n → E0 (moreR n rs) a b = E0 rs a b := fun a b ha hb => E0_of Iff.rfl (W_more h ha hb) (W_more h hb ha)
  have h0 : ∀ b, b ≤ n → E0 (moreR n rs) n b ≤ 0 := fun b hb => by
    unfold E0
    rw [W_last h hb, if_pos (.inr (Nat.zero_le _))]
    exact Int.le_refl _
  have eq : ∀ a b, a < n → b < n → a ≠ b → fw (E0 (moreR n rs)) (n + 1) a b = fw (E0 rs) n a b := fun a b ha hb hab => fw_more hf h0 (fun k a b => fw_nn k a b) (fun k a b => fw_nn k a b) ha hb hab
  have up : ∀ a, a < n → 1 ≤ fw (E0 (moreR n rs)) (n + 1) a n := fun a ha => win_edge (by
    unfold M
    have := W_first h ha
    have := W_last h (b := a) (by omega)
    omega)
  unfold winners
  rw [List.range_succ, List.filter_append]
  have e1 : ([n].filter fun a => (List.range n ++ [n]).all fun b => decide (fw (E0 (moreR n rs)) (n + 1) a b ≥ fw (E0 (moreR n rs)) (n + 1) b a)) = [] := by
    rw [List.filter_eq_nil_iff]
    intro a ha
    rw [List.mem_singleton.mp ha, List.all_eq_true]
    intro hall
    have := hall 0 (List.mem_append_left _ (List.mem_range.mpr (by omega)))
    have h1 := up 0 (by omega)
    have h2 := fw_out h0 (b := 0) (by omega)
    simp at this
    omega
  rw [e1, List.append_nil]
  refine List.filter_congr fun a ha => ?_
  have ha : a < n := List.mem_range.mp ha
  rw [List.all_append, Bool.eq_iff_iff, Bool.and_eq_true, List.all_eq_true, List.all_eq_true, List.all_eq_true]
  have h1 := up a ha
  have h2 := fw_out h0 (b := a) ha
  constructor
  · rintro ⟨hall, _⟩ b hb
    have := hall b hb
    by_cases e : a = b
    · subst e; simp
    · rw [eq a b ha (List.mem_range.mp hb) e, eq b a (List.mem_range.mp hb) ha (Ne.symm e)] at this
      exact this
  · intro hall
    refine ⟨fun b hb => ?_, fun b hb => ?_⟩
    · have := hall b hb
      by_cases e : a = b
      · subst e; simp
      · rw [eq a b ha (List.mem_range.mp hb) e, eq b a (List.mem_range.mp hb) ha (Ne.symm e)]
        exact this
    · rw [List.mem_singleton.mp hb]
      simp
      omega
/-! called otherwise -/
theorem ren_win {ys : List Nat} (p : ys.Perm (List.range n)) (h : RowsOk n rs) : RowsOk n (renR (fun k => ys.getD k 0) rs) ∧
    (winners n (fw (E0 (renR (fun k => ys.getD k 0) rs)) n)).map (fun k => ((k : Nat) : Int)) = sortI ((winners n (fw (E0 rs) n)).map fun a => ((ys.getD a 0 : Nat) : Int)) := by
  have hy : ys.length = n := by rw [p.length_eq, List.length_range]
  have at' : ∀ a, (ha : a < n) → ys.getD a 0 = ys[a]'(by omega) := fun a ha => by simp [List.getD, show a < ys.length by omega]
  have hπ : ∀ a, a < n → ys.getD a 0 < n := fun a ha => by
    rw [at' a ha]
    exact List.mem_range.mp (p.mem_iff.mp (List.getElem_mem _))
  have inj : ∀ a b, a < n → b < n → ys.getD a 0 = ys.getD b 0 → a = b := fun a b ha hb e => by
    rw [at' a ha, at' b hb] at e
    exact (List.getElem_inj (nodup_of_perm_range p)).mp e
  have sur : ∀ x, x < n → ∃ a, a < n ∧ ys.getD a 0 = x := fun x hx => by
    obtain ⟨a, ha, e⟩ := List.mem_iff_getElem.mp (p.mem_iff.mpr (List.mem_range.mpr hx))
    exact ⟨a, by omega, by rw [at' a (by omega)]; exact e⟩
  refine ⟨ren_ok h hπ inj, ?_⟩
  generalize hpi : (fun k => ys.getD k 0) = π at *
  have pi_ap : ∀ a, ys.getD a 0 = π a := fun a => by rw [← hpi]
  have hπ : ∀ a, a < n → π a < n := fun a ha => by rw [← pi_ap]; exact hπ a ha
  have inj : ∀ a b, a < n → b < n → π a = π b → a = b := fun a b ha hb e => inj a b ha hb (by rw [pi_ap, pi_ap]; exact e)
  have sur : ∀ x, x < n → ∃ a, a < n ∧ π a = x := fun x hx => by
    obtain ⟨a, ha, e⟩ := sur x hx
    exact ⟨a, ha, by rw [← pi_ap]; exact e⟩
  have hf : ∀ a b, a < n → b < n → E0 (renR π rs) (π a) (π b) = E0 rs a b := fun a b ha hb => E0_of ⟨fun e => inj a b ha hb e, fun e => by rw [e]⟩ (W_ren h inj ha hb) (W_ren h inj hb ha)
  have eq := fun a b (ha : a < n) (hb : b < n) (hab : a ≠ b) => fw_map (f := E0 rs) (f' := E0 (renR π rs)) hπ inj sur hf ha hb hab
  have mem : ∀ a, a < n → (π a ∈ winners n (fw (E0 (renR π rs)) n) ↔ a ∈ winners n (fw (E0 rs) n)) := fun a ha => by
    rw [mem_winners, mem_winners]
    constructor
    · rintro ⟨_, hall⟩
      refine ⟨ha, fun b hb => ?_⟩
      by_cases e : a = b
      · subst e; exact Int.le_refl _
      · rw [← eq a b ha hb e, ← eq b a hb ha (Ne.symm e)]
        exact hall (π b) (hπ b hb)
    · rintro ⟨_, hall⟩
      refine ⟨hπ a ha, fun x hx => ?_⟩
      obtain ⟨b, hb, rfl⟩ := sur x hx
      by_cases e : a = b
      · subst e; exact Int.le_refl _
      · rw [eq a b ha hb e, eq b a hb ha (Ne.symm e)]
        exact hall b hb
  have nd1 : (winners n (fw (E0 (renR π rs)) n)).Nodup := List.nodup_range.filter _
  have nd2 : (winners n (fw (E0 rs) n)).Nodup := List.nodup_range.filter _
  have e2 : ((winners n (fw (E0 rs) n)).map fun a => ((ys.getD a 0 : Nat) : Int)) = ((winners n (fw (E0 rs) n)).map π).map fun k => ((k : Nat) : Int) := by
    rw [List.map_map]
    exact List.map_congr_left fun a _ => by show ((ys.getD a 0 : Nat) : Int) = ((π a : Nat) : Int); rw [pi_ap]
  rw [e2]
  have pm : (winners n (fw (E0 (renR π rs)) n)).Perm ((winners n (fw (E0 rs) n)).map π) := by
    refine (List.perm_ext_iff_of_nodup nd1 ?_).mpr fun x => ?_
    · unfold List.Nodup
      rw [List.pairwise_map]
      exact List.Pairwise.imp_of_mem (fun {a b} ha hb hab e => hab (inj a b (mem_winners.mp ha).1 (mem_winners.mp hb).1 e)) nd2
    · constructor
      · intro hx
        obtain ⟨a, ha, rfl⟩ := sur x (mem_winners.mp hx).1
        exact List.mem_map.mpr ⟨a, (mem a ha).mp hx, rfl⟩
      · intro hx
        obtain ⟨a, ha, rfl⟩ := List.mem_map.mp hx
        exact (mem a (mem_winners.mp ha).1).mpr ha
  refine sort_unique ((pm.map _).trans (sortI_perm _).symm) ?_ (sortI_sorted _)
  rw [List.pairwise_map]
  refine List.Pairwise.imp (fun {a b} (hab : a < b) => by omega) (List.Pairwise.filter _ List.pairwise_lt_range)
end
end K53

set_option Elab.async false
set_option linter.all false
set_option maxRecDepth 100000
namespace K53
open PySem PySem.Spec PyProof.Rows L2 Mini
section
variable {n : Nat} {rs : List (Nat × List Nat)}
theorem eqD_ord (o : List Nat) : eqD (ordD o) (ordD o) = true := by
  refine eqD_self ?_
  show noBs (o.map nD) = true
  exact noBs_map nD o fun _ _ => rfl
theorem plain_ord (k : Nat) (o : List Nat) : plain (k + 1) (ordD o) = true := by
  unfold ordD
  rw [plain_tup, List.all_map]
  exact List.all_eq_true.mpr fun x _ => plain_int k _
theorem eqV2_ord (st : Store) (o : List Nat) : eqV2 st (.d (ordD o)) (.d (ordD o)) = some (.d (.bl true)) := by
  rw [eqV2_d, plain_ord 59, eqD_ord]
  rfl
theorem neV2_ord (st : Store) (o : List Nat) : neV2 st (.d (ordD o)) (.d (ordD o)) = some (.d (.bl false)) := by
  rw [neV2_d, plain_ord 59, eqD_ord]
  rfl
theorem inV_ord (st : Store) {o : Nat} (p : List Nat) : inV2 st (.d (.int (o : Nat))) (.d (ordD p)) = some (.d (.bl (decide (o ∈ p)))) := by
  have h := inB_ord st (o := o) p
  unfold ninV2 at h
  unfold inV2
  cases e : inB st (.d (.int (o : Nat))) (.d (ordD p)) with
  | none => rw [e] at h; cases h
  | some b =>
    rw [e] at h
    have h' : (!b) = !decide (o ∈ p) := by simpa using h
    have : b = decide (o ∈ p) := by cases b <;> cases hd : decide (o ∈ p) <;> simp [hd] at h' ⊢
    rw [this]
    rfl
theorem p60 (o : List Nat) : Mini.plain 60 (ordD o) = true := plain_ord 59 o
theorem neV2_test (st : Store) (o : List Nat) : ((neV2 st (.d (ordD o)) (.d (.tup (o.map nD)))).map fun c => (c, st)).bind (fun p => match p.1 with
    | .d (.bl c) => some (c, p.2)
    | _ => none) = some (false, st) := by
  have h : neV2 st (.d (ordD o)) (.d (.tup (o.map nD))) = some (.d (.bl false)) := neV2_ord st o
  rw [h]
  rfl
theorem right_ok (h : Hand) (s : Store) : ∃ h' : Hand, callV d_L_is_right (.lst h.L :: s) [.r 0] = some (.d (.bl true), .lst h'.L :: s) := by
  obtain ⟨n, rs, h1, eb, hn1, hn, R, hr6⟩ := ballots_ok h s
  have hb := rngOf1_nat (n := n) (by omega)
  let T := winners n (fw (E0 rs) n)
  have hT : T ≠ [] := winners_ne (by omega)
  have hTl : T.length ≤ 5 := by
    have := List.length_filter_le (fun a => (List.range n).all fun b => decide (fw (E0 rs) n a b ≥ fw (E0 rs) n b a)) (List.range n)
    rw [List.length_range] at this
    show (winners n (fw (E0 rs) n)).length ≤ 5
    unfold winners
    omega
  obtain ⟨ys, h2, py, ec⟩ := called_ok h1 (s ++ [.lst (T.map nD)]) hn R
  obtain ⟨R2, eqw⟩ := ren_win py R
  generalize hrr : renR (fun k => ys.getD k 0) rs = rr at *
  have hyl : ys.length = n := by rw [py.length_eq, List.length_range]
  let Q : Nat → Bool := fun a => (List.range n).all fun b => decide (fw (E0 rs) n a b ≥ fw (E0 rs) n b a)
  refine ⟨h2, callV_run ?_⟩
  refine Runs.seq (Runs.unp (d := .tup [nD n, rowsD rs]) (st1 := .lst h1.L :: s) (rho' := [some (.r 0), some (.d (nD n)), some (.d (rowsD rs)), none, none, none, none, none, none, none, none, none, none, none, none]) (by simp [eb]) (by simp) ?_)
  have mk : ∀ (st : Store) (a b c d e f g i j k l m : Option Vl), mMake 0 3 d_Ballots___init__ (mCons (mVar 1) (mCons (mVar 2) mNil)) [a, some (.d (nD n)), some (.d (rowsD rs)), b, c, d, e, f, g, i, j, k, l, m] st = some (.d (bookD n rs), st) := fun st a b c d e f g i j k l m => make_ok (by simp) hn1 hn R
  refine Runs.seq (Runs.par (xs := [.d (bookD n rs), .r (s.length + 1)]) (st1 := .lst h1.L :: (s ++ [.lst []])) (rho' := [some (.r 0), some (.d (nD n)), some (.d (rowsD rs)), some (.d (bookD n rs)), some (.r (s.length + 1)), none, none, none, none, none, none, none, none, none, none]) ?_ rfl ?_)
  · rw [mCons_ap, make_ok (st' := .lst h1.L :: s) (by simp) hn1 hn R]
    simp
  -- who is due
  refine Runs.seq (Runs.forN (n := n) (st1 := .lst h1.L :: (s ++ [.lst []])) (fun i rho s' => ∃ x y, rho = [some (.r 0), some (.d (nD n)), some (.d (rowsD rs)), some (.d (bookD n rs)), some (.r (s.length + 1)), x, y, none, none, none, none, none, none, none, none] ∧ s' = .lst h1.L :: (s ++ [.lst (((List.range i).filter Q).map nD)])) (by simp [nD, hb]) ⟨none, none, rfl, rfl⟩ ?_ ?_)
  · rintro i rho s' hi ⟨x, y, rfl, rfl⟩
    refine ⟨_, by simp; rfl, ?_⟩
    refine Runs.seq (Runs.set (x := .d (.lst (((List.range n).filter fun o => decide (o ≠ i)).map nD))) (st1 := .lst h1.L :: (s ++ [.lst (((List.range i).filter Q).map nD)])) ?_ ?_)
    · rw [mLc_of (List.range n) (fun (k : Nat) => Itm.one (.int (k : Nat))) (fun o => decide (o ≠ i)) nD]
      · simp [nD, hb]
      · simp; omega
      · intro o ho
        refine ⟨_, by simp; rfl, ?_, fun _ => by simp [nD]⟩
        simp
        omega
    · have test : (mT (mBi (one allV1) (mCons (mLc (iSeq (mVar 6)) (gNm 12) [12] mYes (mOp geV (mCall 4 d_L_width (mCons (mVar 1) (mCons (mVar 2) (mCons (mVar 5) (mCons (mVar 12) mNil))))) (mCall 4 d_L_width (mCons (mVar 1) (mCons (mVar 2) (mCons (mVar 12) (mCons (mVar 5) mNil))))))) mNil)))
        [some (.r 0), some (.d (nD n)), some (.d (rowsD rs)), some (.d (bookD n rs)), some (.r (s.length + 1)), some (.d (.int (i : Nat))), some (.d (.lst (((List.range n).filter fun o => decide (o ≠ i)).map nD))), none, none, none, none, none, none, none, none] (.lst h1.L :: (s ++ [.lst (((List.range i).filter Q).map nD)])) = some (Q i, .lst h1.L :: (s ++ [.lst (((List.range i).filter Q).map nD)])) := by
        rw [mT_ap, mBi_ap, mCons_ap]
        rw [mLc_all ((List.range n).filter fun o => decide (o ≠ i)) (fun o => .one (nD o)) (fun o => .bl (decide (fw (E0 rs) n i o ≥ fw (E0 rs) n o i)))]
        · have e : (((List.range n).filter fun o => decide (o ≠ i)).map fun o => decide (fw (E0 rs) n i o ≥ fw (E0 rs) n o i)).all id = Q i := by
            rw [List.all_map, Bool.eq_iff_iff, List.all_eq_true, List.all_eq_true]
            constructor
            · intro hall b hb
              by_cases c : b = i
              · subst c; simp
              · exact hall b (List.mem_filter.mpr ⟨hb, by simpa using c⟩)
            · intro hall b hb
              exact hall b (List.mem_filter.mp hb).1
          simp only [mNil_ap, Option.bind_some, Option.map_some, one_ap, allV1_lst, blsOf_of, e, truV_bl]
        · simp
        · have := List.length_filter_le (fun o => decide (o ≠ i)) (List.range n)
          rw [List.length_range] at this
          omega
        · intro o ho
          obtain ⟨ho, hoi⟩ := List.mem_filter.mp ho
          have ho : o < n := List.mem_range.mp ho
          have hoi : o ≠ i := by simpa using hoi
          exact ⟨_, by simp [nD]; rfl, by simp [nD, width_val _ hn R hi ho (Ne.symm hoi), width_val _ hn R ho hi hoi]⟩
      have e1 : (List.range (i + 1)).filter Q = (List.range i).filter Q ++ (if Q i then [i] else []) := by
        rw [List.range_succ, List.filter_append, List.filter_cons]
        rfl
      by_cases c : Q i = true
      · rw [c] at test
        refine Runs.ifT test (Runs.drop (x := .d .non) (st1 := .lst h1.L :: (s ++ [.lst (((List.range (i + 1)).filter Q).map nD)])) ?_ ⟨.inl rfl, _, _, rfl, rfl⟩)
        have l1 : ((List.range i).filter Q).length < lim := by
          have := List.length_filter_le Q (List.range i)
          rw [List.length_range] at this
          exact lim_gt (by omega)
        rw [e1, if_pos c]
        simp [l1, nD]
      · have c : Q i = false := by simpa using c
        rw [c] at test
        refine Runs.ifF test (Runs.next ⟨.inl rfl, _, _, rfl, ?_⟩)
        rw [e1, c]
        simp
  rintro rho s' ⟨x, y, rfl, rfl⟩
  have hQT : (List.range n).filter Q = T := rfl
  rw [hQT]
  -- told
  refine Runs.seq (Runs.set (x := .d (ordD T)) (st1 := .lst h1.L :: (s ++ [.lst (T.map nD)])) (by simp [widest_ok _ hn R]; rfl) ?_)
  refine Runs.seq (Runs.ifF (st1 := .lst h1.L :: (s ++ [.lst (T.map nD)])) ?_ (Runs.next ?_))
  · have e := is_ord (.lst h1.L :: (s ++ [.lst (T.map nD)])) 62 (o := T) (by omega)
    have e' : callV (d_L_is f_L_is) (.lst h1.L :: (s ++ [.lst (T.map nD)])) [.d (ordD T), .d (.tup (T.map nD))] = some (.d (.bl true), .lst h1.L :: (s ++ [.lst (T.map nD)])) := e
    have hT0 : ¬ T = [] := hT
    simp [e', hT0]
  refine Runs.seq (Runs.set (x := .d (optD (beaters n rs).head?)) (st1 := .lst h1.L :: (s ++ [.lst (T.map nD)])) (by simp [beater_ok _ hn R]) ?_)
  obtain ⟨S, eS, LS⟩ := smith_ok (.lst h1.L :: (s ++ [.lst (T.map nD)])) hn hn1 R
  refine Runs.seq (Runs.ifF (st1 := .lst h1.L :: (s ++ [.lst (T.map nD)])) ?_ (Runs.next ?_))
  · have all1 : (mT (mBi (one allV1) (mCons (mLc (iSeq (mVar 7)) (gNm 5) [5] mYes (mOp inV2 (mVar 5) (mCall 1 d_smith (mCons (mVar 3) mNil)))) mNil)))
        [some (.r 0), some (.d (nD n)), some (.d (rowsD rs)), some (.d (bookD n rs)), some (.r (s.length + 1)), x, y, some (.d (ordD T)), some (.d (optD (beaters n rs).head?)), none, none, none, none, none, none] (.lst h1.L :: (s ++ [.lst (T.map nD)])) = some (true, .lst h1.L :: (s ++ [.lst (T.map nD)])) := by
      rw [mT_ap, mBi_ap, mCons_ap]
      rw [mLc_all T (fun o => .one (nD o)) (fun o => .bl true)]
      · rw [show (T.map fun _ => D.bl true) = T.map fun a => D.bl ((fun _ => true) a) from rfl]
        simp [blsOf_of]
      · simp [ordD]
      · omega
      · intro o ho
        have := win_in_lot LS ho
        exact ⟨_, by simp [nD]; rfl, by simp [nD, eS, inV_ord, this]⟩
    have tst1 : (mAndT (mB (mUn (isN true) (mVar 8))) (mB (mOp neV2 (mVar 7) (mTup (mCons (mVar 8) mNil))))) [some (.r 0), some (.d (nD n)), some (.d (rowsD rs)), some (.d (bookD n rs)), some (.r (s.length + 1)), x, y, some (.d (ordD T)), some (.d (optD (beaters n rs).head?)), none, none, none, none, none, none] (.lst h1.L :: (s ++ [.lst (T.map nD)])) = some (false, .lst h1.L :: (s ++ [.lst (T.map nD)])) := by
      cases hbe : beaters n rs with
      | nil => simp [optD]
      | cons a l =>
        have e1 : T = [a] := beater_win hbe
        have e2 : D.tup [nD a] = ordD [a] := rfl
        have e3 : ∀ st : Store, isN true st (.d (nD a)) = some (.d (.bl true)) := fun _ => rfl
        rw [e1]
        simp [optD, e3, e2, p60, eqD_ord]
    show mOrT _ (mNotT _) [some (.r 0), some (.d (nD n)), some (.d (rowsD rs)), some (.d (bookD n rs)), some (.r (s.length + 1)), x, y, some (.d (ordD T)), some (.d (optD (beaters n rs).head?)), none, none, none, none, none, none] _ = _
    rw [mOrT_ap, tst1, Option.bind_some, if_neg Bool.false_ne_true, mNotT_ap, all1]
    rfl
  refine Runs.seq (Runs.unp (d := .tup [.lst (ys.map nD), rowsD (rr)]) (st1 := .lst h2.L :: (s ++ [.lst (T.map nD)])) (rho' := [some (.r 0), some (.d (nD n)), some (.d (rowsD rs)), some (.d (bookD n rs)), some (.r (s.length + 1)), x, y, some (.d (ordD T)), some (.d (optD (beaters n rs).head?)), some (.d (.lst (ys.map nD))), some (.d (rowsD (rr))), none, none, none, none]) ?_ ?_ ?_)
  · have ec' : callV d_L_called (.lst h1.L :: (s ++ [.lst (T.map nD)])) [.r 0, .d (nD n), .d (rowsD rs)] = some (.d (.tup [.lst (ys.map nD), rowsD (rr)]), .lst (Hand.L h2) :: (s ++ [.lst (T.map nD)])) := ec
    simp [ec']
  · simp
  refine Runs.seq (Runs.ifF (st1 := .lst h2.L :: (s ++ [.lst (T.map nD)])) ?_ (Runs.next ?_))
  · have e1 := widest_ok (.lst h2.L :: (s ++ [.lst (T.map nD)])) hn R2
    have e2 : (sortI (T.map fun a => ((ys.getD a 0 : Nat) : Int))).map D.int = (winners n (fw (E0 (rr)) n)).map nD := by
      rw [← eqw, List.map_map]
      rfl
    show mB (mOp neV2 _ _) [some (.r 0), some (.d (nD n)), some (.d (rowsD rs)), some (.d (bookD n rs)), some (.r (s.length + 1)), x, y, some (.d (ordD T)), some (.d (optD (beaters n rs).head?)), some (.d (.lst (ys.map nD))), some (.d (rowsD (rr))), none, none, none, none] _ = _
    rw [mB_ap, mOp_ap, mCall_ap, mCons_ap, make_ok (n := n) (rs := rr) (st' := .lst h2.L :: (s ++ [.lst (T.map nD)])) (by simp) hn1 hn R2]
    simp [e1]
    rw [mLc_all T (fun o => .one (nD o)) (fun o => .int (ys.getD o 0 : Nat))]
    · simp only [Option.bind_some, Option.map_some, mNil_ap, mCons_ap, mBi_ap, one_ap, sortV1_lst, intsOf_of, e2, tupV1_lst]
      exact neV2_test _ _
    · simp [ordD]
    · omega
    · intro o ho
      have ho : o < ys.length := by
        have := (mem_winners.mp ho).1
        omega
      refine ⟨_, by simp [nD]; rfl, ?_⟩
      have : atI (ys.map nD) (o : Nat) = some (nD (ys.getD o 0)) := by
        rw [atI_nat' (by simpa using ho), List.getElem_map]
        simp [List.getD, ho]
      simp [-List.getD_eq_getElem?_getD, this, nD]
  by_cases h5 : n = 5
  · refine Runs.seq (Runs.ifT (st1 := .lst h2.L :: (s ++ [.lst (T.map nD)])) (by simp [nD, h5]) ?_)
    exact Runs.ret (x := .d (.bl true)) (st1 := .lst h2.L :: (s ++ [.lst (T.map nD)])) (by simp) (.v rfl ⟨[.lst (T.map nD)], rfl⟩)
  · refine Runs.seq (Runs.ifF (st1 := .lst h2.L :: (s ++ [.lst (T.map nD)])) (by simp [nD]; omega) (Runs.next ?_))
    refine Runs.seq (Runs.set (x := .d (bookD (n + 1) (moreR n rs))) (st1 := .lst h2.L :: (s ++ [.lst (T.map nD)])) ?_ ?_)
    · refine make_ok ?_ (by omega) (by omega) (more_ok R)
      have ea : ∀ st : Store, addV st (.d (nD n)) (.d (.int 1)) = some (.d (nD (n + 1))) := fun _ => rfl
      rw [mCons_ap]
      simp [ea]
      rw [mLc_all rs (fun r => .one (rowD r)) (fun r => rowD (r.1, r.2 ++ [n]))]
      · simp [moreR, rowsD]
      · simp [rowsD]
      · omega
      · intro r hr
        have hl : r.2.length = n := by rw [(R.perm r hr).length_eq, List.length_range]
        have l2 : r.2.length + 1 ≤ lim := lim_ge (by omega)
        refine ⟨_, by simp [rowD]; rfl, ?_⟩
        simp [rowD, ordD, nD, l2]
    · refine Runs.ret (x := .d (.bl true)) (st1 := .lst h2.L :: (s ++ [.lst (T.map nD)])) ?_ (.v rfl ⟨[.lst (T.map nD)], rfl⟩)
      have e := widest_ok (n := n + 1) (rs := moreR n rs) (.lst h2.L :: (s ++ [.lst (T.map nD)])) (by omega) (more_ok R)
      rw [more_win R hn1] at e
      have e' : callV d_widest (.lst h2.L :: (s ++ [.lst (T.map nD)])) [.d (bookD (n + 1) (moreR n rs))] = some (.d (ordD T), .lst h2.L :: (s ++ [.lst (T.map nD)])) := e
      simp [e', p60, eqD_ord]
end
end K53

set_option Elab.async false
set_option linter.all false
set_option maxRecDepth 100000
namespace K53
open PySem PySem.Spec PyProof.Rows L2 Mini
def ring3 : List (Nat × List Nat) := [(4, [0, 1, 2]), (3, [1, 2, 0]), (2, [2, 0, 1])]
def even2 : List (Nat × List Nat) := [(1, [0, 1]), (1, [1, 0])]
theorem ring3_ok : RowsOk 3 ring3 := ⟨by decide, by decide, by decide, by decide⟩
theorem even2_ok : RowsOk 2 even2 := ⟨by decide, by decide, by decide, by decide⟩
theorem ring3_win : winners 3 (fw (E0 ring3) 3) = [0] := by decide
theorem even2_win : winners 2 (fw (E0 even2) 2) = [0, 1] := by decide
theorem hand_ok (ns : List Int) : ∃ h : Hand, callN d_L_hand [] [.d (.scr ns)] = some (.r 0, [.lst h.L]) := by
  have hl : (Mini.cutD ns none (some 63)).length ≤ 1000000 := by
    unfold Mini.cutD
    rw [List.length_take]
    have : HT.sIx ns.length ns.length (some 63) = min 63 ns.length := HT.sIx_nat ns.length ns.length 63
    rw [this]
    omega
  generalize hc : Mini.cutD ns none (some 63) = cs at hl
  refine ⟨⟨cs.map fun i => if i < 0 then -i else i, 0, 0, 173 + cs.length, 0⟩, ?_⟩
  unfold callN d_L_hand b_L_hand
  simp
  rw [mLc_all cs (fun i => .one (.int i)) (fun i => .int (if i < 0 then -i else i))]
  · simp [exitN, Hand.L]
  · simp [hc]
  · exact hl
  · intro i _
    exact ⟨_, by simp; rfl, by simp⟩
theorem law_true (ns : List Int) (h : ns.length ≤ 63) : ∃ st', d_law [] [.d (.scr ns)] = some (.d (.bl true), st') := by
  obtain ⟨h0, e0⟩ := hand_ok ns
  have g : Gives d_law [] [.d (.scr ns)] fun c _ => c = .d (.bl true) := by
    refine Gives.run ?_
    refine Runs.seq (Runs.set (x := .r 0) (st1 := [.lst h0.L]) (by simp [e0]) ?_)
    refine Runs.seq (Runs.set (x := .d (bookD 3 ring3)) (st1 := [.lst h0.L]) (make_ok (by simp [rowsD, ring3, rowD, ordD, nD]) (by decide) (by decide) ring3_ok) ?_)
    refine Runs.seq (Runs.ifF (st1 := [.lst h0.L]) ?_ (Runs.next ?_))
    · have w3 := widest_ok [.lst h0.L] (by decide) ring3_ok
      have w2 := widest_ok [.lst h0.L] (by decide) even2_ok
      rw [ring3_win] at w3
      rw [even2_win] at w2
      have t1 : D.tup [.int 0] = ordD [0] := rfl
      have t2 : D.tup [.int 0, .int 1] = ordD [0, 1] := rfl
      simp [-mMake_ap, w3, t1, p60, eqD_ord]
      rw [make_ok (n := 2) (rs := even2) (st' := [.lst h0.L]) (by simp [rowsD, even2, rowD, ordD, nD]) (by decide) (by decide) even2_ok]
      simp [w2, t2, p60, eqD_ord]
    · obtain ⟨ds, st', e, hR, hl, hd⟩ := mLc_rel (mi := iAs rngOf1 (mCons (mC (.int 4)) mNil)) (g := gNm 3) (own := [3]) (m := mCall 1 d_L_is_right (mCons (mVar 1) mNil)) (rho := [some (.d (.scr ns)), some (.r 0), some (.d (bookD 3 ring3)), none]) (st := [.lst h0.L]) (st1 := [.lst h0.L])
        (List.range 4) (fun (k : Nat) => Itm.one (.int (k : Nat))) (fun s => ∃ h : Hand, s = [.lst h.L]) (fun _ d => d = .bl true) (by simp; rfl) (by decide) ⟨h0, rfl⟩ (fun a _ s ⟨h, hs⟩ => by
          subst hs
          obtain ⟨h', e⟩ := right_ok h []
          exact ⟨_, .bl true, [.lst h'.L], by simp; rfl, by simp [e], ⟨h', rfl⟩, rfl⟩)
      have all : ds = ds.map fun _ => D.bl true := by
        conv => lhs; rw [← List.map_id ds]
        exact List.map_congr_left fun d hd' => by obtain ⟨_, _, e⟩ := hd d hd'; exact e
      refine Runs.ret (x := .d (.bl true)) (st1 := st') ?_ rfl
      show mBi _ _ [some (.d (.scr ns)), some (.r 0), some (.d (bookD 3 ring3)), none] _ = _
      rw [mBi_ap, mCons_ap, e, all, show (ds.map fun _ => D.bl true) = ds.map fun a => D.bl ((fun _ => true) a) from rfl]
      simp [blsOf_of]
  obtain ⟨c, st', e, rfl⟩ := g
  exact ⟨st', e⟩
end K53

set_option Elab.async false
set_option linter.all false
set_option maxRecDepth 100000
open PySem PySem.W PyProof.Rows
set_option maxRecDepth 100000 in
set_option maxHeartbeats 0 in
theorem PySem.Challenge.cw_playershouse_k53_whole_winners_by_widest_holds : PySem.Challenge.rw_playershouse_k53_whole_winners_by_widest.Holds := by
  w_on; o_law; k_head; (case hw => w_witness2)
  k_fill
  refine L2.walk_of (l := PySem.Challenge.rw_playershouse_k53_whole_winners_by_widest) (n := 63) (k := 66) (x := "script") (CX := fun _ => L2.CX0) (sp := fun w => Mini.spL _ K53.d_law) rfl (by decide) rfl ⟨rfl, by decide, by decide⟩ (fun w h Y => PySem.W.kIn_of Y) ?F (fun _ _ a ns hl _ hS => ⟨a, ns, rfl, hS, K53.law_true ns hl, rfl⟩) (fun _ _ _ _ _ h => h)
  case F =>
    intro w mg fa h KX G hmg
    refine' K53.all_mk KX G hmg ?aC0 ?a0 ?l0 ?c0 ?k0 ?a1 ?l1 ?c1 ?k1 ?a2 ?l2 ?c2 ?k2 ?a3 ?l3 ?c3 ?k3 ?a4 ?l4 ?c4 ?k4 ?a5 ?l5 ?c5 ?k5 ?a6 ?i6 ?l6 ?c6 ?k6 ?a7 ?l7 ?c7 ?k7 ?a8 ?l8 ?c8 ?k8 ?a9 ?l9 ?c9 ?k9 ?a10 ?l10 ?c10 ?k10 ?a11 ?l11 ?c11 ?k11 ?a12 ?l12 ?c12 ?k12 ?a13 ?l13 ?c13 ?k13 ?a14 ?l14 ?c14 ?k14 ?a15 ?l15 ?c15 ?k15 ?a16 ?l16 ?c16 ?k16 ?a17 ?l17 ?c17 ?k17 ?a18 ?l18 ?c18 ?k18 ?a19 ?l19 ?c19 ?k19 ?a20 ?l20 ?c20 ?k20 ?a21 ?l21 ?c21 ?k21 ?a22 ?l22 ?c22 ?k22 ?a23 ?l23 ?c23 ?k23 ?a24 ?l24 ?c24 ?k24 ?a25 ?l25 ?c25 ?k25 ?pg0 ?hd0 ?po0 ?sa0 ?mk0 ?kc0 ?n0_many ?n0_rows ?z_abs ?z_all ?z_bool ?z_int ?z_isinstance ?z_len ?z_list ?z_max ?z_min ?z_range ?z_set ?z_sorted ?z_str ?z_sum ?z_tuple ?z_zip ?y_MOST_ROWS ?y_MOST_THINGS ?y_MOST_TIMES
    (case aC0 => k_is); (case a0 => k_is); (case l0 => k_is); (case c0 => k_is); (case k0 => k_is); (case a1 => k_is); (case l1 => k_is); (case c1 => k_is); (case k1 => k_is); (case a2 => k_is); (case l2 => k_is); (case c2 => k_is); (case k2 => k_is); (case a3 => k_is); (case l3 => k_is); (case c3 => k_is); (case k3 => k_is); (case a4 => k_is); (case l4 => k_is); (case c4 => k_is); (case k4 => k_is); (case a5 => k_is); (case l5 => k_is); (case c5 => k_is); (case k5 => k_is); (case a6 => k_is); (case i6 => k_is); (case l6 => k_is); (case c6 => k_is); (case k6 => k_is); (case a7 => k_is); (case l7 => k_is); (case c7 => k_is); (case k7 => k_is); (case a8 => k_is); (case l8 => k_is); (case c8 => k_is); (case k8 => k_is); (case a9 => k_is); (case l9 => k_is); (case c9 => k_is); (case k9 => k_is); (case a10 => k_is); (case l10 => k_is); (case c10 => k_is); (case k10 => k_is); (case a11 => k_is); (case l11 => k_is); (case c11 => k_is); (case k11 => k_is); (case a12 => k_is); (case l12 => k_is); (case c12 => k_is); (case k12 => k_is); (case a13 => k_is); (case l13 => k_is); (case c13 => k_is); (case k13 => k_is); (case a14 => k_is); (case l14 => k_is); (case c14 => k_is); (case k14 => k_is); (case a15 => k_is); (case l15 => k_is); (case c15 => k_is); (case k15 => k_is); (case a16 => k_is); (case l16 => k_is); (case c16 => k_is); (case k16 => k_is); (case a17 => k_is); (case l17 => k_is); (case c17 => k_is); (case k17 => k_is); (case a18 => k_is); (case l18 => k_is); (case c18 => k_is); (case k18 => k_is); (case a19 => k_is); (case l19 => k_is); (case c19 => k_is); (case k19 => k_is); (case a20 => k_is); (case l20 => k_is); (case c20 => k_is); (case k20 => k_is); (case a21 => k_is); (case l21 => k_is); (case c21 => k_is); (case k21 => k_is); (case a22 => k_is); (case l22 => k_is); (case c22 => k_is); (case k22 => k_is); (case a23 => k_is); (case l23 => k_is); (case c23 => k_is); (case k23 => k_is); (case a24 => k_is); (case l24 => k_is); (case c24 => k_is); (case k24 => k_is); (case a25 => k_is); (case l25 => k_is); (case c25 => k_is); (case k25 => k_is); (case pg0 => k_is); (case hd0 => k_is); (case po0 => k_is); (case sa0 => k_is); (case mk0 => k_is); (case kc0 => k_is); (case n0_many => k_is); (case n0_rows => k_is); (case z_abs => k_is); (case z_all => k_is); (case z_bool => k_is); (case z_int => k_is); (case z_isinstance => k_is); (case z_len => k_is); (case z_list => k_is); (case z_max => k_is); (case z_min => k_is); (case z_range => k_is); (case z_set => k_is); (case z_sorted => k_is); (case z_str => k_is); (case z_sum => k_is); (case z_tuple => k_is); (case z_zip => k_is); (case y_MOST_ROWS => k_is); (case y_MOST_THINGS => k_is); (case y_MOST_TIMES => k_is)

