import PyProof.Rows.All
import Wide.All
import OpenK.AllK
import Wide.FinOn
import HandS.ForMost
import HandS.IsInst
import HandS.More
import HandS.Conv
import HandS.Zip
import HandS.SortInts
import HandS.Lambda
import HandS.ForExc
import HandS.ExcCtx
import HandS.Style
import HandS.HotCalls
import HandS.ExcIs
import HandS.RevTup
import PySem.Challenge.RW_clearday_k10_a_day_kept
set_option Elab.async false
set_option linter.all false
set_option maxRecDepth 100000
set_option maxHeartbeats 4000000
/-! Vx: a layer of values over the hand layer. A state is a list of slots and a table of cells (objects that may still be changed); all else is plain data. -/
namespace Vx
open PySem L2

/-- a value: plain data that stands still, the j-th cell, the script, or an object of which nothing is told -/
inductive W where
  | dat (d : PyData)
  | cel (j : Nat)
  | scr (ns : List Int)
  | raw (a : Addr)
abbrev Sl := Option W
/-- a cell: an object that may be changed -/
inductive Cell where
  | dead
  | lst (ws : List W)
  | dic (kvs : List (Key × W))
  | ins (C : Addr) (fs : List (Str × W))
  | tab (P : Addr) (q : Str)
abbrev di (i : Int) : W := .dat (.int i)
abbrev db (b : Bool) : W := .dat (.bool b)
abbrev dl (ds : List PyData) : W := .dat (.list ds)
abbrev dt (ds : List PyData) : W := .dat (.tuple ds)
abbrev dn : W := .dat .none
abbrev ds_ (x : Str) : W := .dat (.str x)

/-! ### growth of a heap -/
theorem same_t {K : PySem.W.Frag} {H H' : Hp} {a : Addr} {xs : List V} (e : Same H H') (h : SqT K H a xs) : SqT K H' a xs := by
  rcases h with (h | ⟨o, h⟩) | h
  · exact .inl (.inl (e _ _ h))
  · exact .inl (.inr ⟨o, e _ _ h⟩)
  · exact .inr h
theorem same_new {H : Hp} {p : Addr} {o : HO} (h : H p = none) : Same H (upd H p o) := fun a u e => by
  rw [upd_ne (ne_of_none e h)]
  exact e
theorem same_upd {G H : Hp} {p : Addr} {o : HO} (h : Same G H) (hn : G p = none) : Same G (upd H p o) := fun a u e => by
  rw [upd_ne (ne_of_none e hn)]
  exact h a u e
theorem same_both {G H : Hp} {p : Addr} {o : HO} (h : Same G H) : Same (upd G p o) (upd H p o) := fun a u e => by
  by_cases q : a = p
  · subst q
    rw [upd_same] at e ⊢
    exact e
  · rw [upd_ne q] at e ⊢
    exact h a u e
/-! plain data as it lies in the heap -/
mutual
inductive Dq (H : Hp) : V → PyData → Prop
  | non : Dq H .non .none
  | bl (b : Bool) : Dq H (.bl b) (.bool b)
  | int (i : Int) : Dq H (.int i) (.int i)
  | str (x : Str) : Dq H (.str x) (.str x)
  | lst {a : Addr} {xs : List V} {ds : List PyData} : H a = some (.lst xs) → DqA H xs ds → Dq H (.ref a) (.list ds)
  | tup {a : Addr} {xs : List V} {ds : List PyData} : H a = some (.tup xs) → DqA H xs ds → Dq H (.ref a) (.tuple ds)
inductive DqA (H : Hp) : List V → List PyData → Prop
  | nil : DqA H [] []
  | cons {v : V} {vs : List V} {d : PyData} {ds : List PyData} : Dq H v d → DqA H vs ds → DqA H (v :: vs) (d :: ds)
end
mutual
theorem dq_mono {G H : Hp} (e : Same G H) : ∀ {v : V} {d : PyData}, Dq G v d → Dq H v d
  | _, _, .non => .non
  | _, _, .bl b => .bl b
  | _, _, .int i => .int i
  | _, _, .str x => .str x
  | _, _, .lst h r => .lst (e _ _ h) (dqa_mono e r)
  | _, _, .tup h r => .tup (e _ _ h) (dqa_mono e r)
theorem dqa_mono {G H : Hp} (e : Same G H) : ∀ {vs : List V} {ds : List PyData}, DqA G vs ds → DqA H vs ds
  | _, _, .nil => .nil
  | _, _, .cons h r => .cons (dq_mono e h) (dqa_mono e r)
end
mutual
theorem dq_dp {K : PySem.W.Frag} {H : Hp} : ∀ {v : V} {d : PyData}, Dq H v d → Dp K H v d
  | _, _, .non => .non
  | _, _, .bl b => .bl b
  | _, _, .int i => .int i
  | _, _, .str x => .str x
  | _, _, .lst h r => .lst (.of h) (dqa_dp r)
  | _, _, .tup h r => .tup (.of h) (dqa_dp r)
theorem dqa_dp {K : PySem.W.Frag} {H : Hp} : ∀ {vs : List V} {ds : List PyData}, DqA H vs ds → DpAll K H vs ds
  | _, _, .nil => .nil
  | _, _, .cons h r => .cons (dq_dp h) (dqa_dp r)
end
theorem dqa_len {H : Hp} : ∀ {vs : List V} {ds : List PyData}, DqA H vs ds → vs.length = ds.length
  | _, _, .nil => rfl
  | _, _, .cons _ r => by rw [List.length_cons, List.length_cons, dqa_len r]
theorem dqa_get {H : Hp} : ∀ {vs : List V} {ds : List PyData} {i : Nat} {d : PyData}, DqA H vs ds → ds[i]? = some d → ∃ v, vs[i]? = some v ∧ Dq H v d
  | _, _, _, _, .nil, e => by simp at e
  | _, _, 0, _, .cons h _, e => by
    simp at e
    subst e
    exact ⟨_, rfl, h⟩
  | _, _, i + 1, _, .cons _ r, e => by
    obtain ⟨v, h1, h2⟩ := dqa_get (i := i) r (by simpa using e)
    exact ⟨v, by simpa using h1, h2⟩
theorem dqa_get' {H : Hp} : ∀ {vs : List V} {ds : List PyData} {i : Nat} {v : V}, DqA H vs ds → vs[i]? = some v → ∃ d, ds[i]? = some d ∧ Dq H v d
  | _, _, _, _, .nil, e => by simp at e
  | _, _, 0, _, .cons h _, e => by
    simp at e
    subst e
    exact ⟨_, rfl, h⟩
  | _, _, i + 1, _, .cons _ r, e => by
    obtain ⟨v, h1, h2⟩ := dqa_get' (i := i) r (by simpa using e)
    exact ⟨v, by simpa using h1, h2⟩
theorem dqa_app {H : Hp} : ∀ {vs ws : List V} {ds es : List PyData}, DqA H vs ds → DqA H ws es → DqA H (vs ++ ws) (ds ++ es)
  | _, _, _, _, .nil, r => r
  | _, _, _, _, .cons h t, r => .cons h (dqa_app t r)
theorem dqa_take {H : Hp} : ∀ {vs : List V} {ds : List PyData} (n : Nat), DqA H vs ds → DqA H (vs.take n) (ds.take n)
  | _, _, 0, _ => .nil
  | _, _, _ + 1, .nil => .nil
  | _, _, n + 1, .cons h t => .cons h (dqa_take n t)
theorem dqa_drop {H : Hp} : ∀ {vs : List V} {ds : List PyData} (n : Nat), DqA H vs ds → DqA H (vs.drop n) (ds.drop n)
  | _, _, 0, r => r
  | _, _, _ + 1, .nil => .nil
  | _, _, n + 1, .cons _ t => dqa_drop n t
theorem dqa_ints {H : Hp} : ∀ {vs : List V} {ns : List Int}, DqA H vs (ns.map .int) → vs = ns.map .int
  | [], [], _ => rfl
  | [], _ :: _, h => nomatch h
  | _ :: _, [], h => nomatch h
  | _ :: _, _ :: _, .cons h t => by
    cases h
    rw [dqa_ints t] <;> rfl
theorem dqa_bools {H : Hp} : ∀ {vs : List V} {ns : List Bool}, DqA H vs (ns.map .bool) → vs = ns.map .bl
  | [], [], _ => rfl
  | [], _ :: _, h => nomatch h
  | _ :: _, [], h => nomatch h
  | _ :: _, _ :: _, .cons h t => by
    cases h
    rw [dqa_bools t] <;> rfl
theorem dqa_of_ints {H : Hp} : ∀ (ns : List Int), DqA H (ns.map .int) (ns.map .int)
  | [] => .nil
  | n :: r => .cons (.int n) (dqa_of_ints r)

/-! ### values, cells -/
section
variable (K : PySem.W.Frag)
def WR (G : Hp) (al : List Addr) : W → V → Prop
  | .dat d, v => Dq G v d
  | .cel j, v => ∃ a, al[j]? = some a ∧ v = .ref a
  | .scr ns, v => ∃ a, v = .ref a ∧ SqL K G a (ns.map .int)
  | .raw a, v => v = .ref a
def CR (G : Hp) (al : List Addr) (H : Hp) (a : Addr) : Cell → Prop
  | .dead => True
  | .lst ws => ∃ xs, H a = some (.lst xs) ∧ Paired (WR K G al) ws xs
  | .dic kvs => ∃ kxs : List (Key × V), H a = some (.dK kxs) ∧ Paired (fun (p : Key × W) (q : Key × V) => p.1 = q.1 ∧ WR K G al p.2 q.2) kvs kxs
  | .ins C fs => ∃ dx fxs, H a = some (.ins C dx fxs) ∧ Paired (fun (p : Str × W) (q : Str × V) => p.1 = q.1 ∧ WR K G al p.2 q.2) fs fxs
  | .tab P q => a = P ∧ ∃ ps : Array Value, H a = some (.tbl ps) ∧ TriplesOk ps.toList ∧ ∀ (pos : Pos) (cv : Value), PySem.codeAmong pos ps.toList = some cv → ∃ c, cv = .ref c ∧ G c = some (LamX.CodeO c q)
structure Ok (G : Hp) (al : List Addr) (M : List Cell) (H : Hp) : Prop where
  ex : Same G H
  len : al.length = M.length
  nd : al.Nodup
  kn : ∀ a ∈ al, H a ≠ none
  gn : ∀ (j : Nat) a c, al[j]? = some a → M[j]? = some c → c ≠ .dead → G a = none
  ce : ∀ (j : Nat) a c, al[j]? = some a → M[j]? = some c → CR K G al H a c
def SR (G : Hp) (al : List Addr) : List Sl → St → Prop := Paired fun s x => ∀ w, s = some w → ∃ v, x = some v ∧ WR K G al w v
end
structure Le (G : Hp) (al : List Addr) (H : Hp) (G' : Hp) (al' : List Addr) (H' : Hp) : Prop where
  g : Same G G'
  la : ∃ β, al' = al ++ β ∧ ∀ a ∈ β, H a = none
  fr : ∀ a o, H a = some o → a ∉ al → H' a = some o
  cap : ∀ a, H a ≠ none → a ∉ al → G' a = G a

section
variable {K : PySem.W.Frag} {G G1 G2 H H1 H2 : Hp} {al al1 al2 : List Addr} {M M1 M2 : List Cell}
theorem Le.refl : Le G al H G al H := ⟨Same.refl _, ⟨[], by simp, by simp⟩, fun _ _ e _ => e, fun _ _ _ => rfl⟩
theorem Le.trans (a : Le G al H G1 al1 H1) (k : Ok K G1 al1 M1 H1) (k0 : ∀ a ∈ al, H a ≠ none) (b : Le G1 al1 H1 G2 al2 H2) : Le G al H G2 al2 H2 := by
  obtain ⟨β, e1, n1⟩ := a.la
  obtain ⟨γ, e2, n2⟩ := b.la
  have nal : ∀ x o, H x = some o → x ∉ al → x ∉ al1 := fun x o h hx hx1 => by
    rw [e1] at hx1
    rcases List.mem_append.mp hx1 with q | q
    · exact hx q
    · rw [n1 x q] at h
      cases h
  refine ⟨a.g.trans b.g, ⟨β ++ γ, by rw [e2, e1, List.append_assoc], fun x hx => ?_⟩, fun x o h hx => b.fr x o (a.fr x o h hx) (nal x o h hx), fun x h hx => ?_⟩
  · rcases List.mem_append.mp hx with q | q
    · exact n1 x q
    · cases h : H x with
      | none => rfl
      | some o =>
        by_cases hx1 : x ∈ al
        · exact absurd (n2 x q) (k.kn x (by rw [e1]; exact List.mem_append_left _ hx1))
        · have z := a.fr x o h hx1
          rw [n2 x q] at z
          cases z
  · cases h' : H x with
    | none => exact absurd h' h
    | some o =>
      rw [b.cap x (by rw [a.fr x o h' hx]; simp) (nal x o h' hx)]
      exact a.cap x h hx
theorem wr_mono {w : W} {v : V} (g : Same G G1) (e : ∃ β, al1 = al ++ β) (h : WR K G al w v) : WR K G1 al1 w v := by
  obtain ⟨β, rfl⟩ := e
  cases w with
  | dat d => exact dq_mono g h
  | cel j =>
    obtain ⟨a, h1, h2⟩ := h
    exact ⟨a, by rw [List.getElem?_append_left (List.getElem?_eq_some_iff.mp h1).1]; exact h1, h2⟩
  | scr ns =>
    obtain ⟨a, h1, h2⟩ := h
    exact ⟨a, h1, g.seq h2⟩
  | raw a => exact h
theorem Le.pre (h : Le G al H G1 al1 H1) : ∃ β, al1 = al ++ β := by
  obtain ⟨β, e, _⟩ := h.la
  exact ⟨β, e⟩
theorem WR.up {w : W} {v : V} (h : WR K G al w v) (l : Le G al H G1 al1 H1) : WR K G1 al1 w v := wr_mono l.g l.pre h
theorem paired_imp {α β : Type} {F F' : α → β → Prop} (f : ∀ a b, F a b → F' a b) : ∀ {xs : List α} {ys : List β}, Paired F xs ys → Paired F' xs ys
  | _, _, .nil => .nil
  | _, _, .cons h t => .cons (f _ _ h) (paired_imp f t)
theorem SR.up {s : List Sl} {σ : St} (h : SR K G al s σ) (l : Le G al H G1 al1 H1) : SR K G1 al1 s σ := paired_imp (fun _ _ k w e => by
  obtain ⟨v, h1, h2⟩ := k w e
  exact ⟨v, h1, h2.up l⟩) h
theorem CR.up {a : Addr} {c : Cell} (h : CR K G al H a c) (g : Same G G1) (e : ∃ β, al1 = al ++ β) (eh : H1 a = H a) : CR K G1 al1 H1 a c := by
  cases c with
  | dead => exact True.intro
  | lst ws =>
    obtain ⟨xs, h1, h2⟩ := h
    exact ⟨xs, eh.trans h1, paired_imp (fun _ _ k => wr_mono g e k) h2⟩
  | dic kvs =>
    obtain ⟨xs, h1, h2⟩ := h
    exact ⟨xs, eh.trans h1, paired_imp (fun _ _ k => ⟨k.1, wr_mono g e k.2⟩) h2⟩
  | ins C fs =>
    obtain ⟨dx, xs, h1, h2⟩ := h
    exact ⟨dx, xs, eh.trans h1, paired_imp (fun _ _ k => ⟨k.1, wr_mono g e k.2⟩) h2⟩
  | tab P q =>
    obtain ⟨ea, ps, h1, h2, h3⟩ := h
    exact ⟨ea, ps, eh.trans h1, h2, fun pos cv hc => let ⟨c, e1, e2⟩ := h3 pos cv hc; ⟨c, e1, g _ _ e2⟩⟩
theorem Ok.nin (k : Ok K G al M H) {p : Addr} (hp : H p = none) : p ∉ al := fun h => k.kn p h hp
theorem Ok.gnone (k : Ok K G al M H) {p : Addr} (hp : H p = none) : G p = none := k.ex.free hp
theorem ne_of_mem {p a : Addr} {l : List Addr} (h : p ∉ l) {j : Nat} (e : l[j]? = some a) : a ≠ p := fun z => h (z ▸ List.mem_of_getElem? e)
/-- a new object that stands still -/
theorem Ok.frz (k : Ok K G al M H) {p : Addr} {o : HO} (hp : H p = none) : Ok K (upd G p o) al M (upd H p o) where
  ex := same_both k.ex
  len := k.len
  nd := k.nd
  kn := fun a h => by rw [upd_ne (fun z : a = p => k.nin hp (z ▸ h))]; exact k.kn a h
  gn := fun j a c e1 e2 hd => by rw [upd_ne (ne_of_mem (k.nin hp) e1)]; exact k.gn j a c e1 e2 hd
  ce := fun j a c e1 e2 => (k.ce j a c e1 e2).up (same_new (k.gnone hp)) ⟨[], by simp⟩ (upd_ne (ne_of_mem (k.nin hp) e1))
theorem Le.frz (k : Ok K G al M H) {p : Addr} {o : HO} (hp : H p = none) : Le G al H (upd G p o) al (upd H p o) :=
  ⟨same_new (k.gnone hp), ⟨[], by simp, by simp⟩, fun a u e _ => same_new hp a u e, fun a h _ => upd_ne fun z => h (z ▸ hp)⟩
theorem get_snoc {α : Type} {l : List α} {x a : α} {j : Nat} (h : (l ++ [x])[j]? = some a) : (j < l.length ∧ l[j]? = some a) ∨ (j = l.length ∧ a = x) := by
  by_cases hj : j < l.length
  · rw [List.getElem?_append_left hj] at h
    exact .inl ⟨hj, h⟩
  · rw [List.getElem?_append_right (by omega)] at h
    cases q : j - l.length with
    | zero =>
      rw [q] at h
      exact .inr ⟨by omega, (Option.some.inj h).symm⟩
    | succ n =>
      rw [q] at h
      simp at h
theorem nodup_snoc {α : Type} {l : List α} {x : α} (h : l.Nodup) (hx : x ∉ l) : (l ++ [x]).Nodup := by
  rw [List.nodup_append]
  exact ⟨h, by simp, fun a ha b hb => by
    rw [List.mem_singleton.mp hb]
    exact fun z => hx (z ▸ ha)⟩
/-- a new cell -/
theorem Ok.cell (k : Ok K G al M H) {p : Addr} {H' : Hp} {c : Cell} (hp : H p = none) (hk : Same H H') (hc : CR K G (al ++ [p]) H' p c) (hn : H' p ≠ none) : Ok K G (al ++ [p]) (M ++ [c]) H' where
  ex := k.ex.trans hk
  len := by rw [List.length_append, List.length_append, k.len] <;> rfl
  nd := nodup_snoc k.nd (k.nin hp)
  kn := fun a h => by
    rcases List.mem_append.mp h with q | q
    · cases e : H a with
      | none => exact absurd e (k.kn a q)
      | some o => rw [hk a o e]; simp
    · rw [List.mem_singleton.mp q]
      exact hn
  gn := fun j a c' e1 e2 hd => by
    rcases get_snoc e1 with ⟨_, q1⟩ | ⟨q1, q2⟩
    · rcases get_snoc e2 with ⟨_, r1⟩ | ⟨r1, _⟩
      · exact k.gn j a c' q1 r1 hd
      · have := (List.getElem?_eq_some_iff.mp q1).1
        rw [k.len] at this
        omega
    · rw [q2]
      exact k.gnone hp
  ce := fun j a c' e1 e2 => by
    rcases get_snoc e1 with ⟨_, q1⟩ | ⟨q1, q2⟩
    · rcases get_snoc e2 with ⟨_, r1⟩ | ⟨r1, _⟩
      · refine (k.ce j a c' q1 r1).up (Same.refl _) ⟨_, rfl⟩ ?_
        have := k.kn a (List.mem_of_getElem? q1)
        cases e : H a with
        | none => exact absurd e this
        | some o => exact hk a o e
      · have := (List.getElem?_eq_some_iff.mp q1).1
        rw [k.len] at this
        omega
    · rcases get_snoc e2 with ⟨r1, _⟩ | ⟨_, r2⟩
      · rw [k.len] at q1
        omega
      · rw [q2, r2]
        exact hc
theorem Le.cell (k : Ok K G al M H) {p : Addr} {H' : Hp} (hp : H p = none) (hk : Same H H') : Le G al H G (al ++ [p]) H' :=
  ⟨Same.refl _, ⟨[p], rfl, fun a h => by rw [List.mem_singleton.mp h]; exact hp⟩, fun a o e _ => hk a o e, fun _ _ _ => rfl⟩
theorem nd_inj {α : Type} {l : List α} (hN : l.Nodup) {i j : Nat} {x : α} (a : l[i]? = some x) (b : l[j]? = some x) : i = j := by
  obtain ⟨h1, e1⟩ := List.getElem?_eq_some_iff.mp a
  obtain ⟨h2, e2⟩ := List.getElem?_eq_some_iff.mp b
  exact (List.getElem_inj hN).mp (e1.trans e2.symm)
/-- a cell is changed -/
theorem Ok.set (k : Ok K G al M H) {j : Nat} {a : Addr} {c c' : Cell} {o : HO} (ha : al[j]? = some a) (hm : M[j]? = some c) (hl : c ≠ .dead) (hc : CR K G al (upd H a o) a c') : Ok K G al (M.set j c') (upd H a o) where
  ex := same_upd k.ex (k.gn j a c ha hm hl)
  len := by rw [List.length_set]; exact k.len
  nd := k.nd
  kn := fun b h => by
    by_cases q : b = a
    · rw [q, upd_same]
      simp
    · rw [upd_ne q]
      exact k.kn b h
  gn := fun i b d e1 e2 hd => by
    by_cases q : i = j
    · subst q
      rw [ha] at e1
      cases e1
      exact k.gn i a c ha hm hl
    · rw [List.getElem?_set_ne (fun z => q z.symm)] at e2
      exact k.gn i b d e1 e2 hd
  ce := fun i b d e1 e2 => by
    by_cases q : i = j
    · subst q
      rw [ha] at e1
      cases e1
      rw [List.getElem?_set_self (List.getElem?_eq_some_iff.mp hm).1] at e2
      cases e2
      exact hc
    · rw [List.getElem?_set_ne (fun z => q z.symm)] at e2
      exact (k.ce i b d e1 e2).up (Same.refl _) ⟨[], by simp⟩ (upd_ne fun z => q (nd_inj k.nd e1 (z ▸ ha)))
theorem Le.set (k : Ok K G al M H) {a : Addr} {o : HO} (ha : a ∈ al) : Le G al H G al (upd H a o) :=
  ⟨Same.refl _, ⟨[], by simp, by simp⟩, fun b u e hb => by rw [upd_ne (fun z : b = a => hb (z ▸ ha))]; exact e, fun _ _ _ => rfl⟩
/-- a list's cell stands still from now on -/
theorem Ok.freeze (k : Ok K G al M H) {j : Nat} {a : Addr} {ws : List W} {xs : List V} (ha : al[j]? = some a) (hm : M[j]? = some (.lst ws)) (hx : H a = some (.lst xs)) : Ok K (upd G a (.lst xs)) al (M.set j .dead) H where
  ex := fun b u e => by
    by_cases q : b = a
    · rw [q, upd_same] at e
      cases e
      rw [q]
      exact hx
    · rw [upd_ne q] at e
      exact k.ex b u e
  len := by rw [List.length_set]; exact k.len
  nd := k.nd
  kn := k.kn
  gn := fun i b d e1 e2 hd => by
    by_cases q : i = j
    · subst q
      rw [List.getElem?_set_self (List.getElem?_eq_some_iff.mp hm).1] at e2
      cases e2
      exact absurd rfl hd
    · rw [List.getElem?_set_ne (fun z => q z.symm)] at e2
      rw [upd_ne fun z : b = a => q (nd_inj k.nd e1 (z ▸ ha))]
      exact k.gn i b d e1 e2 hd
  ce := fun i b d e1 e2 => by
    by_cases q : i = j
    · subst q
      rw [List.getElem?_set_self (List.getElem?_eq_some_iff.mp hm).1] at e2
      cases e2
      exact True.intro
    · rw [List.getElem?_set_ne (fun z => q z.symm)] at e2
      exact (k.ce i b d e1 e2).up (same_new (k.gn j a _ ha hm (fun z => nomatch z))) ⟨[], by simp⟩ rfl
theorem Le.freeze (k : Ok K G al M H) {j : Nat} {a : Addr} {ws : List W} {xs : List V} (ha : al[j]? = some a) (hm : M[j]? = some (.lst ws)) : Le G al H (upd G a (.lst xs)) al H :=
  ⟨same_new (k.gn j a _ ha hm (fun z => nomatch z)), ⟨[], by simp, by simp⟩, fun _ _ e _ => e, fun b _ hb => upd_ne fun z => hb (z ▸ List.mem_of_getElem? ha)⟩
end
end Vx

set_option Elab.async false
set_option linter.all false
set_option maxRecDepth 100000
set_option maxHeartbeats 4000000
/-! Vx2: what an expression gives, at the level of values -/
namespace Vx
open PySem L2

section
variable (K : PySem.W.Frag)
/-- what is wanted of a value behind: for any later world -/
def Then (M' : List Cell) (w : W) (G : Hp) (al : List Addr) (H : Hp) (Q : VK) : Prop := ∀ v G' al' H', Ok K G' al' M' H' → Le G al H G' al' H' → WR K G' al' w v → Q v H'
def Ev (te : TE) (s : List Sl) (M : List Cell) (w : W) (M' : List Cell) : Prop :=
  ∀ G al σ H, Ok K G al M H → SR K G al s σ → ∀ Q : VK, Then K M' w G al H Q → te σ H Q
def EvB (tt : TT) (s : List Sl) (M : List Cell) (b : Bool) (M' : List Cell) : Prop :=
  ∀ G al σ H, Ok K G al M H → SR K G al s σ → ∀ Q : Bool → Hp → Prop, (∀ G' al' H', Ok K G' al' M' H' → Le G al H G' al' H' → Q b H') → tt σ H Q
def EvA (ta : TA) (s : List Sl) (M : List Cell) (ws : List W) (M' : List Cell) : Prop :=
  ∀ G al σ H, Ok K G al M H → SR K G al s σ → ∀ Q : List V → Hp → Prop, (∀ vs G' al' H', Ok K G' al' M' H' → Le G al H G' al' H' → Paired (WR K G' al') ws vs → Q vs H') → ta σ H Q
def EvO (to : TO) (s : List Sl) (M : List Cell) (o : Option Int) (M' : List Cell) : Prop :=
  ∀ G al σ H, Ok K G al M H → SR K G al s σ → ∀ Q : Option Int → Hp → Prop, (∀ G' al' H', Ok K G' al' M' H' → Le G al H G' al' H' → Q o H') → to σ H Q
abbrev EvD (ta : TA) (s : List Sl) (M : List Cell) (ds : List PyData) (M' : List Cell) : Prop := EvA K ta s M (ds.map .dat) M'
/-- by values: an operation of two, a call, a method -/
def R2V (r : R2) (M : List Cell) (w1 w2 w : W) (M' : List Cell) : Prop :=
  ∀ G al H x y, Ok K G al M H → WR K G al w1 x → WR K G al w2 y → ∀ Q : VK, Then K M' w G al H Q → r x y H Q
def RCV (r : List V → Hp → VK → Prop) (M : List Cell) (ws : List W) (w : W) (M' : List Cell) : Prop :=
  ∀ G al H xs, Ok K G al M H → Paired (WR K G al) ws xs → ∀ Q : VK, Then K M' w G al H Q → r xs H Q
def RMV (T : String) (r : V → List V → Hp → VK → Prop) (M : List Cell) (w0 : W) (ws : List W) (w : W) (M' : List Cell) : Prop :=
  ∀ G al H x xs, Ok K G al M H → WR K G al w0 x → Paired (WR K G al) ws xs → ∀ Q : VK, Then K M' w G al H Q → tyV K T x H ∧ r x xs H Q
end

/-- what a value is as a list (a list or the script), as a list or tuple -/
inductive LstOf (M : List Cell) : W → List W → Prop
  | dat (ds : List PyData) : LstOf M (dl ds) (ds.map .dat)
  | cel {j : Nat} {ws : List W} (h : M[j]? = some (.lst ws)) : LstOf M (.cel j) ws
  | scr (ns : List Int) : LstOf M (.scr ns) (ns.map di)
/-- what a value is as data, as it stands now -/
inductive DatOf (M : List Cell) : W → PyData → Prop
  | dat (d : PyData) : DatOf M (.dat d) d
  | cel {j : Nat} {ds : List PyData} (h : M[j]? = some (.lst (ds.map .dat))) : DatOf M (.cel j) (.list ds)

section
variable {K : PySem.W.Frag} {G H : Hp} {al : List Addr} {M M1 M2 M3 : List Cell} {s : List Sl} {σ : St} {te ta tb tc : TE} {tt tu : TT} {w w1 w2 w3 : W} {ws : List W} {ds : List PyData} {d : PyData} {i j : Int} {b c : Bool} {r : R2}

theorem paired_get {α β : Type} {F : α → β → Prop} : ∀ {xs : List α} {ys : List β} {i : Nat} {x : α}, Paired F xs ys → xs[i]? = some x → ∃ y, ys[i]? = some y ∧ F x y
  | _, _, _, _, .nil, e => by simp at e
  | _, _, 0, _, .cons h _, e => by
    simp at e
    subst e
    exact ⟨_, rfl, h⟩
  | _, _, i + 1, _, .cons _ t, e => by
    obtain ⟨y, h1, h2⟩ := paired_get (i := i) t (by simpa using e)
    exact ⟨y, by simpa using h1, h2⟩
theorem paired_len {α β : Type} {F : α → β → Prop} : ∀ {xs : List α} {ys : List β}, Paired F xs ys → xs.length = ys.length
  | _, _, .nil => rfl
  | _, _, .cons _ t => by rw [List.length_cons, List.length_cons, paired_len t]
theorem paired_set {α β : Type} {F : α → β → Prop} {x : α} {y : β} (h : F x y) : ∀ {xs : List α} {ys : List β} (i : Nat), Paired F xs ys → Paired F (xs.set i x) (ys.set i y)
  | _, _, _, .nil => .nil
  | _, _, 0, .cons _ t => .cons h t
  | _, _, i + 1, .cons q t => .cons q (paired_set h i t)
theorem paired_app {α β : Type} {F : α → β → Prop} : ∀ {xs xs' : List α} {ys ys' : List β}, Paired F xs ys → Paired F xs' ys' → Paired F (xs ++ xs') (ys ++ ys')
  | _, _, _, _, .nil, r => r
  | _, _, _, _, .cons h t, r => .cons h (paired_app t r)
theorem paired_take {α β : Type} {F : α → β → Prop} : ∀ {xs : List α} {ys : List β} (n : Nat), Paired F xs ys → Paired F (xs.take n) (ys.take n)
  | _, _, 0, _ => .nil
  | _, _, _ + 1, .nil => .nil
  | _, _, n + 1, .cons h t => .cons h (paired_take n t)
theorem paired_drop {α β : Type} {F : α → β → Prop} : ∀ {xs : List α} {ys : List β} (n : Nat), Paired F xs ys → Paired F (xs.drop n) (ys.drop n)
  | _, _, 0, r => r
  | _, _, _ + 1, .nil => .nil
  | _, _, n + 1, .cons _ t => paired_drop n t
theorem dqa_wr {xs : List V} : ∀ {ds : List PyData}, DqA G xs ds → Paired (WR K G al) (ds.map .dat) xs := fun {ds} h => by
  induction ds generalizing xs with
  | nil => cases h; exact .nil
  | cons d ds ih =>
    cases h with
    | cons h1 h2 => exact .cons h1 (ih h2)
theorem wr_dqa {xs : List V} : ∀ {ds : List PyData}, Paired (WR K G al) (ds.map .dat) xs → DqA G xs ds := fun {ds} h => by
  induction ds generalizing xs with
  | nil => cases h; exact .nil
  | cons d ds ih =>
    cases h with
    | cons h1 h2 => exact .cons h1 (ih h2)
theorem wr_ints {xs : List V} : ∀ {ns : List Int}, Paired (WR K G al) (ns.map di) xs → xs = ns.map .int := fun {ns} h => by
  induction ns generalizing xs with
  | nil => cases h; rfl
  | cons d ds ih =>
    cases h with
    | cons h1 h2 =>
      have e := ih h2
      cases h1
      rw [e] <;> rfl
theorem ints_wr : ∀ (ns : List Int), Paired (WR K G al) (ns.map di) (ns.map .int)
  | [] => .nil
  | n :: r => .cons (Dq.int n) (ints_wr r)
theorem sr_get {i : Nat} (r : SR K G al s σ) (h : s[i]? = some (some w)) : ∃ v, σ[i]? = some (some v) ∧ WR K G al w v := by
  obtain ⟨y, h1, h2⟩ := paired_get r h
  obtain ⟨v, e, q⟩ := h2 w rfl
  exact ⟨v, by rw [h1, e], q⟩
theorem sr_set {i : Nat} {v : V} (r : SR K G al s σ) (h : WR K G al w v) : SR K G al (s.set i (some w)) (σ.set i (some v)) :=
  paired_set (fun w' e => ⟨v, rfl, by cases e; exact h⟩) i r
theorem sr_wipe {i : Nat} {v : V} (r : SR K G al s σ) (h : WR K G al w v) : SR K G al (s.set i (some w)) ((σ.set i none).set i (some v)) := by
  rw [List.set_set]
  exact sr_set r h
/-- as a list -/
theorem LstOf.sq {v : V} (l : LstOf M w ws) (k : Ok K G al M H) (h : WR K G al w v) : ∃ a xs, v = .ref a ∧ SqL K H a xs ∧ Paired (WR K G al) ws xs := by
  cases l with
  | dat ds =>
    cases h with
    | lst e q => exact ⟨_, _, rfl, .of (k.ex _ _ e), dqa_wr q⟩
  | @cel j ws hm =>
    obtain ⟨a, e, rfl⟩ := h
    obtain ⟨xs, h1, h2⟩ := k.ce j a _ e hm
    exact ⟨a, xs, rfl, .of h1, h2⟩
  | scr ns =>
    obtain ⟨a, rfl, q⟩ := h
    exact ⟨a, _, rfl, k.ex.seq q, ints_wr ns⟩
theorem DatOf.dp {v : V} (l : DatOf M w d) (k : Ok K G al M H) (h : WR K G al w v) : Dp K H v d := by
  cases l with
  | dat d => exact dq_dp (dq_mono k.ex h)
  | @cel j ds hm =>
    obtain ⟨a, e, rfl⟩ := h
    obtain ⟨xs, h1, h2⟩ := k.ce j a _ e hm
    exact .lst (.of h1) (dqa_dp (dqa_mono k.ex (wr_dqa h2)))
theorem Then.up {G1 H1 : Hp} {al1 : List Addr} {Q : VK} (q : Then K M2 w G al H Q) (k : Ok K G al M H) (k1 : Ok K G1 al1 M1 H1) (l : Le G al H G1 al1 H1) : Then K M2 w G1 al1 H1 Q :=
  fun v G' al' H' k' l' r' => q v G' al' H' k' (l.trans k1 k.kn l') r'

/-! ### laying new things -/
theorem alloc_lst {xs : List V} {Q : VK} (k : Ok K G al M H) (h : DqA G xs ds) (q : Then K M (dl ds) G al H Q) : ∀ p, H p = none → Q (.ref p) (upd H p (.lst xs)) := fun p hp =>
  q _ _ _ _ (k.frz hp) (.frz k hp) (Dq.lst upd_same (dqa_mono (same_new (k.gnone hp)) h))
theorem alloc_tup {xs : List V} {Q : VK} (k : Ok K G al M H) (h : DqA G xs ds) (q : Then K M (dt ds) G al H Q) : ∀ p, H p = none → Q (.ref p) (upd H p (.tup xs)) := fun p hp =>
  q _ _ _ _ (k.frz hp) (.frz k hp) (Dq.tup upd_same (dqa_mono (same_new (k.gnone hp)) h))
theorem alloc_cell {xs : List V} {Q : VK} (k : Ok K G al M H) (h : Paired (WR K G al) ws xs) (q : Then K (M ++ [.lst ws]) (.cel M.length) G al H Q) : ∀ p, H p = none → Q (.ref p) (upd H p (.lst xs)) := fun p hp =>
  q _ _ _ _ (k.cell hp (same_new hp) ⟨xs, upd_same, paired_imp (fun _ _ z => wr_mono (Same.refl _) ⟨_, rfl⟩ z) h⟩ (by rw [upd_same]; simp)) (.cell k hp (same_new hp))
    ⟨p, by rw [← k.len, List.getElem?_append_right (Nat.le_refl _), Nat.sub_self] <;> rfl, rfl⟩
theorem alloc_dic {Q : VK} (k : Ok K G al M H) (q : Then K (M ++ [.dic []]) (.cel M.length) G al H Q) : ∀ p, H p = none → Q (.ref p) (upd H p (.dK [])) := fun p hp =>
  q _ _ _ _ (k.cell hp (same_new hp) ⟨[], upd_same, .nil⟩ (by rw [upd_same]; simp)) (.cell k hp (same_new hp))
    ⟨p, by rw [← k.len, List.getElem?_append_right (Nat.le_refl _), Nat.sub_self] <;> rfl, rfl⟩

/-! ### names, constants -/
theorem Ev.var {i : Nat} (h : s[i]? = some (some w)) : Ev K (tVar i) s M w M := fun G al σ H k r Q q => by
  obtain ⟨v, h1, h2⟩ := sr_get r h
  exact ⟨v, h1, q v G al H k .refl h2⟩
theorem Ev.int : Ev K (tC (.int i)) s M (di i) M := fun G al σ H k r Q q => q _ G al H k .refl (Dq.int i)
theorem Ev.bl : Ev K (tC (.bl b)) s M (db b) M := fun G al σ H k r Q q => q _ G al H k .refl (Dq.bl b)
theorem Ev.str {x : Str} : Ev K (tC (.str x)) s M (ds_ x) M := fun G al σ H k r Q q => q _ G al H k .refl (Dq.str x)
theorem Ev.non : Ev K (tC .non) s M dn M := fun G al σ H k r Q q => q _ G al H k .refl Dq.non
/-- a cell that is a list stands still from here on -/
theorem Ev.frz {n : Nat} (h : Ev K te s M (.cel n) M1) (hm : M1[n]? = some (.lst (ds.map .dat))) : Ev K te s M (dl ds) (M1.set n .dead) := fun G al σ H k r Q q =>
  h G al σ H k r _ fun v G1 al1 H1 k1 l1 r1 => by
    obtain ⟨a, e, rfl⟩ := r1
    obtain ⟨xs, h1, h2⟩ := k1.ce n a _ e hm
    exact q _ _ _ _ (k1.freeze e hm h1) (l1.trans k1 k.kn (.freeze k1 e hm)) (Dq.lst upd_same (dqa_mono (same_new (k1.gn n a _ e hm (fun z => nomatch z))) (wr_dqa h2)))
theorem Ev.is (h : Ev K te s M w M1) (e : w = w1) : Ev K te s M w1 M1 := e ▸ h
theorem Ev.isM (h : Ev K te s M w M1) (e : M1 = M2) : Ev K te s M w M2 := e ▸ h

/-! ### operations -/
theorem Ev.op (ha : Ev K ta s M w1 M1) (hb : Ev K tb s M1 w2 M2) (hr : R2V K r M2 w1 w2 w M3) : Ev K (tOp r ta tb) s M w M3 := fun G al σ H k sr Q q =>
  ha G al σ H k sr _ fun v1 G1 al1 H1 k1 l1 r1 => hb G1 al1 σ H1 k1 (sr.up l1) _ fun v2 G2 al2 H2 k2 l2 r2 =>
    hr G2 al2 H2 v1 v2 k2 (r1.up l2) r2 Q (q.up k k2 (l1.trans k1 k.kn l2))
theorem Ev.i0 {f : Int → Int → Int} (ha : Ev K ta s M (di i) M1) (hb : Ev K tb s M1 (di j) M2) : Ev K (tOp (rI0 fun a b => .int (f a b)) ta tb) s M (di (f i j)) M2 :=
  .op ha hb fun G al H x y k hx hy Q q => by
    cases hx
    cases hy
    exact ⟨i, j, rfl, rfl, q _ _ _ _ k .refl (Dq.int _)⟩
theorem Ev.b0 {f : Int → Int → Bool} (ha : Ev K ta s M (di i) M1) (hb : Ev K tb s M1 (di j) M2) : Ev K (tOp (rI0 fun a b => .bl (f a b)) ta tb) s M (db (f i j)) M2 :=
  .op ha hb fun G al H x y k hx hy Q q => by
    cases hx
    cases hy
    exact ⟨i, j, rfl, rfl, q _ _ _ _ k .refl (Dq.bl _)⟩
theorem Ev.iC {C : Int → Int → Prop} {f : Int → Int → Int} (ha : Ev K ta s M (di i) M1) (hb : Ev K tb s M1 (di j) M2) (hc : C i j) : Ev K (tOp (rI C fun a b => .int (f a b)) ta tb) s M (di (f i j)) M2 :=
  .op ha hb fun G al H x y k hx hy Q q => by
    cases hx
    cases hy
    exact ⟨i, j, rfl, rfl, hc, q _ _ _ _ k .refl (Dq.int _)⟩
theorem Ev.neg (ha : Ev K ta s M (di i) M1) : Ev K (tUn (rU fun i => .int (-i)) ta) s M (di (-i)) M1 := fun G al σ H k sr Q q =>
  ha G al σ H k sr _ fun v1 G1 al1 H1 k1 l1 r1 => by
    cases r1
    exact ⟨i, rfl, q _ _ _ _ k1 l1 (Dq.int _)⟩
theorem Ev.eqI (ha : Ev K ta s M (di i) M1) (hb : Ev K tb s M1 (di j) M2) : Ev K (tOp rEq ta tb) s M (db (decide (i = j))) M2 :=
  .op ha hb fun G al H x y k hx hy Q q => by
    cases hx
    cases hy
    have e : decide (V.int i = V.int j) = decide (i = j) := by
      by_cases h : i = j
      · subst h; simp
      · rw [decide_eq_false h, decide_eq_false (fun z => h (V.int.inj z))]
    exact ⟨rfl, by rw [e]; exact q _ _ _ _ k .refl (Dq.bl _)⟩
theorem Ev.neI (ha : Ev K ta s M (di i) M1) (hb : Ev K tb s M1 (di j) M2) : Ev K (tOp rNe ta tb) s M (db (!decide (i = j))) M2 :=
  .op ha hb fun G al H x y k hx hy Q q => by
    cases hx
    cases hy
    have e : decide (V.int i = V.int j) = decide (i = j) := by
      by_cases h : i = j
      · subst h; simp
      · rw [decide_eq_false h, decide_eq_false (fun z => h (V.int.inj z))]
    exact ⟨rfl, by rw [e]; exact q _ _ _ _ k .refl (Dq.bl _)⟩
theorem Ev.eqB (ha : Ev K ta s M (db b) M1) (hb : Ev K tb s M1 (db c) M2) : Ev K (tOp rEq ta tb) s M (db (decide (b = c))) M2 :=
  .op ha hb fun G al H x y k hx hy Q q => by
    cases hx
    cases hy
    have e : decide (V.bl b = V.bl c) = decide (b = c) := by cases b <;> cases c <;> rfl
    exact ⟨rfl, by rw [e]; exact q _ _ _ _ k .refl (Dq.bl _)⟩
theorem Ev.neB (ha : Ev K ta s M (db b) M1) (hb : Ev K tb s M1 (db c) M2) : Ev K (tOp rNe ta tb) s M (db (!decide (b = c))) M2 :=
  .op ha hb fun G al H x y k hx hy Q q => by
    cases hx
    cases hy
    have e : decide (V.bl b = V.bl c) = decide (b = c) := by cases b <;> cases c <;> rfl
    exact ⟨rfl, by rw [e]; exact q _ _ _ _ k .refl (Dq.bl _)⟩
theorem Ev.eqS {x y : Str} (ha : Ev K ta s M (ds_ x) M1) (hb : Ev K tb s M1 (ds_ y) M2) : Ev K (tOp rEq ta tb) s M (db (decide (x = y))) M2 :=
  .op ha hb fun G al H v u k hx hy Q q => by
    cases hx
    cases hy
    have e : decide (V.str x = V.str y) = decide (x = y) := by
      by_cases h : x = y
      · subst h; simp
      · rw [decide_eq_false h, decide_eq_false (fun z => h (V.str.inj z))]
    exact ⟨rfl, by rw [e]; exact q _ _ _ _ k .refl (Dq.bl _)⟩
theorem Ev.neS {x y : Str} (ha : Ev K ta s M (ds_ x) M1) (hb : Ev K tb s M1 (ds_ y) M2) : Ev K (tOp rNe ta tb) s M (db (!decide (x = y))) M2 :=
  .op ha hb fun G al H v u k hx hy Q q => by
    cases hx
    cases hy
    have e : decide (V.str x = V.str y) = decide (x = y) := by
      by_cases h : x = y
      · subst h; simp
      · rw [decide_eq_false h, decide_eq_false (fun z => h (V.str.inj z))]
    exact ⟨rfl, by rw [e]; exact q _ _ _ _ k .refl (Dq.bl _)⟩
/-- data at any depth -/
theorem Ev.eqD {d e : PyData} (ha : Ev K ta s M w1 M1) (hb : Ev K tb s M1 w2 M2) (h1 : DatOf M2 w1 d) (h2 : DatOf M2 w2 e) (sd : SeqAt.shaped d = true) (se : SeqAt.shaped e = true) : Ev K (tOp (rEqD K) ta tb) s M (db (PyData.eqv d e)) M2 :=
  .op ha hb fun G al H v u k hx hy Q q => ⟨d, e, h1.dp k hx, h2.dp k hy, sd, se, q _ _ _ _ k .refl (Dq.bl _)⟩
theorem Ev.neD {d e : PyData} (ha : Ev K ta s M w1 M1) (hb : Ev K tb s M1 w2 M2) (h1 : DatOf M2 w1 d) (h2 : DatOf M2 w2 e) (sd : SeqAt.shaped d = true) (se : SeqAt.shaped e = true) : Ev K (tOp (rNeD K) ta tb) s M (db (!PyData.eqv d e)) M2 :=
  .op ha hb fun G al H v u k hx hy Q q => ⟨d, e, h1.dp k hx, h2.dp k hy, sd, se, q _ _ _ _ k .refl (Dq.bl _)⟩
def rIsN : R2 := fun x y H Q => y = .non ∧ Q (.bl (decide (x = .non))) H
def rNotN : R2 := fun x y H Q => y = .non ∧ Q (.bl (!decide (x = .non))) H
theorem o_isN {X : Cx} : OpR X (compareOp .Is) rIsN := op_isN
theorem o_notN {X : Cx} : OpR X (compareOp .IsNot) rNotN := op_notN
def isNon : W → Bool
  | .dat .none => true
  | _ => false
theorem wr_non {v : V} (h : WR K G al w v) : decide (v = .non) = isNon w := by
  cases w with
  | dat d => cases h <;> rfl
  | cel j => obtain ⟨a, _, rfl⟩ := h; rfl
  | scr ns => obtain ⟨a, rfl, _⟩ := h; rfl
  | raw a => cases h; rfl
theorem Ev.isN (ha : Ev K ta s M w1 M1) (hb : Ev K tb s M1 dn M2) : Ev K (tOp rIsN ta tb) s M (db (isNon w1)) M2 :=
  .op ha hb fun G al H v u k hx hy Q q => by
    cases hy
    exact ⟨rfl, by rw [wr_non hx]; exact q _ _ _ _ k .refl (Dq.bl _)⟩
theorem Ev.notN (ha : Ev K ta s M w1 M1) (hb : Ev K tb s M1 dn M2) : Ev K (tOp rNotN ta tb) s M (db (!isNon w1)) M2 :=
  .op ha hb fun G al H v u k hx hy Q q => by
    cases hy
    exact ⟨rfl, by rw [wr_non hx]; exact q _ _ _ _ k .refl (Dq.bl _)⟩

/-! ### items, lengths, new lists, slices -/
theorem paired_atI {α β : Type} {F : α → β → Prop} {xs : List α} {ys : List β} {x : α} (h : Paired F xs ys) (e : atI xs i = some x) : ∃ y, atI ys i = some y ∧ F x y := by
  unfold atI at e ⊢
  rw [← paired_len h]
  cases q : ixN xs.length i with
  | none => rw [q] at e; cases e
  | some n =>
    rw [q] at e
    exact paired_get h e
theorem Ev.ix (ha : Ev K ta s M w M1) (hb : Ev K tb s M1 (di i) M2) (hw : LstOf M2 w ws) (hi : atI ws i = some w1) : Ev K (tOp (rIx K) ta tb) s M w1 M2 :=
  .op ha hb fun G al H v u k hx hy Q q => by
    cases hy
    obtain ⟨a, xs, rfl, h1, h2⟩ := hw.sq k hx
    obtain ⟨x, e, hr⟩ := paired_atI h2 hi
    exact .inl ⟨a, xs, i, x, rfl, rfl, h1, e, q _ _ _ _ k .refl hr⟩
theorem Ev.ixT (ha : Ev K ta s M (dt ds) M1) (hb : Ev K tb s M1 (di i) M2) (hi : atI ds i = some d) : Ev K (tOp (rIx K) ta tb) s M (.dat d) M2 :=
  .op ha hb fun G al H v u k hx hy Q q => by
    cases hy
    cases hx with
    | tup e h =>
      obtain ⟨x, e2, hr⟩ := paired_atI (dqa_wr (K := K) (al := al) h) (x := .dat d) (i := i) (by
        unfold atI at hi ⊢
        rw [List.length_map]
        cases z : ixN ds.length i with
        | none => rw [z] at hi; cases hi
        | some n =>
          rw [z] at hi
          have hi : ds[n]? = some d := hi
          show (ds.map W.dat)[n]? = some (.dat d)
          rw [List.getElem?_map, hi] <;> rfl)
      exact .inr (.inl ⟨_, _, i, x, rfl, rfl, .of (k.ex _ _ e), e2, q _ _ _ _ k .refl hr⟩)
theorem ea_nil : EvA K tNil s M [] M := fun G al σ H k sr Q q => q _ _ _ _ k .refl .nil
theorem ea_cons {tr : TA} (h : Ev K te s M w M1) (hr : EvA K tr s M1 ws M2) : EvA K (tCons te tr) s M (w :: ws) M2 := fun G al σ H k sr Q q =>
  h G al σ H k sr _ fun v G1 al1 H1 k1 l1 r1 => hr G1 al1 σ H1 k1 (sr.up l1) _ fun vs G2 al2 H2 k2 l2 r2 => q _ _ _ _ k2 (l1.trans k1 k.kn l2) (.cons (r1.up l2) r2)
theorem ed_cons {tr : TA} (h : Ev K te s M (.dat d) M1) (hr : EvD K tr s M1 ds M2) : EvD K (tCons te tr) s M (d :: ds) M2 := ea_cons h hr
theorem Ev.tup {ta : TA} (h : EvD K ta s M ds M1) (hl : ds.length ≤ 1000) : Ev K (tTup ta) s M (dt ds) M1 := fun G al σ H k sr Q q =>
  h G al σ H k sr _ fun vs G1 al1 H1 k1 l1 r1 => ⟨Nat.le_trans (by rw [← paired_len r1, List.length_map]; exact hl) (by decide), alloc_tup k1 (wr_dqa r1) (q.up k k1 l1)⟩
theorem Ev.lst {ta : TA} (h : EvD K ta s M ds M1) (hl : ds.length ≤ 1000) : Ev K (tLst ta) s M (dl ds) M1 := fun G al σ H k sr Q q =>
  h G al σ H k sr _ fun vs G1 al1 H1 k1 l1 r1 => ⟨Nat.le_trans (by rw [← paired_len r1, List.length_map]; exact hl) (by decide), alloc_lst k1 (wr_dqa r1) (q.up k k1 l1)⟩
theorem Ev.lstC {ta : TA} (h : EvA K ta s M ws M1) (hl : ws.length ≤ 1000) : Ev K (tLst ta) s M (.cel M1.length) (M1 ++ [.lst ws]) := fun G al σ H k sr Q q =>
  h G al σ H k sr _ fun vs G1 al1 H1 k1 l1 r1 => ⟨Nat.le_trans (by rw [← paired_len r1]; exact hl) (by decide), alloc_cell k1 r1 (q.up k k1 l1)⟩
theorem Ev.dicC : Ev K tDNewK s M (.cel M.length) (M ++ [.dic []]) := fun G al σ H k sr Q q => alloc_dic k q
theorem Ev.cb {r : List V → Hp → VK → Prop} {ta : TA} (h : EvA K ta s M ws M1) (hr : RCV K r M1 ws w M2) : Ev K (tCB r ta) s M w M2 := fun G al σ H k sr Q q =>
  h G al σ H k sr _ fun vs G1 al1 H1 k1 l1 r1 => hr G1 al1 H1 vs k1 r1 Q (q.up k k1 l1)
def rLenX (K : PySem.W.Frag) : List V → Hp → VK → Prop := fun xs H Q => ∃ x n, xs = [x] ∧ LenV K x H n ∧ Q (.int n) H
theorem c_len {X : Cx} : CallR X (.builtin "len") (rLenX X.K) := call_len
theorem Ev.len (h : Ev K te s M w M1) (hw : LstOf M1 w ws) : Ev K (tCB (rLenX K) (tCons te tNil)) s M (di ws.length) M1 := .cb (ea_cons h ea_nil) fun G al H xs k r Q q => by
  cases r with
  | cons r1 r2 =>
    cases r2
    obtain ⟨a, xs, rfl, h1, h2⟩ := hw.sq k r1
    exact ⟨_, xs.length, rfl, .inl ⟨xs, h1, rfl⟩, by rw [← paired_len h2]; exact q _ _ _ _ k .refl (Dq.int _)⟩
theorem Ev.lenT (h : Ev K te s M (dt ds) M1) : Ev K (tCB (rLenX K) (tCons te tNil)) s M (di ds.length) M1 := .cb (ea_cons h ea_nil) fun G al H xs k r Q q => by
  cases r with
  | cons r1 r2 =>
    cases r2
    cases r1 with
    | tup e r3 => exact ⟨_, ds.length, rfl, .inr ⟨_, .of (k.ex _ _ e), (dqa_len r3).symm⟩, q _ _ _ _ k .refl (Dq.int _)⟩
def rListX (K : PySem.W.Frag) : List V → Hp → VK → Prop := fun xs H Q => ∃ p ys, xs = [.ref p] ∧ (SqL K H p ys ∨ SqT K H p ys) ∧ ∀ l, H l = none → Q (.ref l) (upd H l (.lst ys))
theorem c_list {X : Cx} : CallR X (.type "list") (rListX X.K) := call_list_of
theorem Ev.list (h : Ev K te s M w M1) (hw : LstOf M1 w (ds.map .dat)) : Ev K (tCB (rListX K) (tCons te tNil)) s M (dl ds) M1 := .cb (ea_cons h ea_nil) fun G al H xs k r Q q => by
  cases r with
  | cons r1 r2 =>
    cases r2
    obtain ⟨a, xs, rfl, h1, h2⟩ := hw.sq k r1
    exact ⟨a, xs, rfl, .inl h1, alloc_lst k (wr_dqa h2) q⟩
theorem Ev.listC (h : Ev K te s M w M1) (hw : LstOf M1 w ws) : Ev K (tCB (rListX K) (tCons te tNil)) s M (.cel M1.length) (M1 ++ [.lst ws]) := .cb (ea_cons h ea_nil) fun G al H xs k r Q q => by
  cases r with
  | cons r1 r2 =>
    cases r2
    obtain ⟨a, xs, rfl, h1, h2⟩ := hw.sq k r1
    exact ⟨a, xs, rfl, .inl h1, alloc_cell k h2 q⟩
theorem eo_none : EvO K tNoPart s M none M := fun G al σ H k sr Q q => q _ _ _ k .refl
theorem eo_some (h : Ev K te s M (di i) M1) : EvO K (tPart te) s M (some i) M1 := fun G al σ H k sr Q q =>
  h G al σ H k sr _ fun v G1 al1 H1 k1 l1 r1 => by
    cases r1
    exact ⟨i, rfl, q _ _ _ k1 l1⟩
/-- the items of xs[lo:hi] -/
def cutW {α : Type} (xs : List α) (lo hi : Option Int) : List α := (xs.drop (HT.sIx xs.length 0 lo)).take (HT.sIx xs.length xs.length hi - HT.sIx xs.length 0 lo)
theorem cut_wr {F : W → V → Prop} {xs : List V} {lo hi : Option Int} (h : Paired F ws xs) : Paired F (cutW ws lo hi) (cutV xs lo hi) := by
  unfold cutW cutV
  rw [← paired_len h]
  exact paired_take _ (paired_drop _ h)
theorem cut_map {α β : Type} (f : α → β) (xs : List α) (lo hi : Option Int) : cutW (xs.map f) lo hi = (cutW xs lo hi).map f := by
  unfold cutW
  rw [List.length_map, List.map_take, List.map_drop]
theorem Ev.sl {tl th : TO} {lo hi : Option Int} (h : Ev K te s M w M1) (h1 : EvO K tl s M1 lo M2) (h2 : EvO K th s M2 hi M3) (hw : LstOf M3 w (ds.map .dat)) : Ev K (tSl (rSlL K) te tl th) s M (dl (cutW ds lo hi)) M3 := fun G al σ H k sr Q q =>
  h G al σ H k sr _ fun v G1 al1 H1 k1 l1 r1 => h1 G1 al1 σ H1 k1 (sr.up l1) _ fun G2 al2 H2 k2 l2 => h2 G2 al2 σ H2 k2 (sr.up (l1.trans k1 k.kn l2)) _ fun G3 al3 H3 k3 l3 => by
    obtain ⟨a, xs, rfl, q1, q2⟩ := hw.sq k3 ((r1.up l2).up l3)
    refine ⟨a, xs, rfl, q1, alloc_lst k3 (wr_dqa (K := K) (al := al3) ?_) (q.up k k3 ((l1.trans k1 k.kn l2).trans k2 k.kn l3))⟩
    rw [← cut_map]
    exact cut_wr q2
theorem Ev.slC {tl th : TO} {lo hi : Option Int} (h : Ev K te s M w M1) (h1 : EvO K tl s M1 lo M2) (h2 : EvO K th s M2 hi M3) (hw : LstOf M3 w ws) : Ev K (tSl (rSlL K) te tl th) s M (.cel M3.length) (M3 ++ [.lst (cutW ws lo hi)]) := fun G al σ H k sr Q q =>
  h G al σ H k sr _ fun v G1 al1 H1 k1 l1 r1 => h1 G1 al1 σ H1 k1 (sr.up l1) _ fun G2 al2 H2 k2 l2 => h2 G2 al2 σ H2 k2 (sr.up (l1.trans k1 k.kn l2)) _ fun G3 al3 H3 k3 l3 => by
    obtain ⟨a, xs, rfl, q1, q2⟩ := hw.sq k3 ((r1.up l2).up l3)
    exact ⟨a, xs, rfl, q1, alloc_cell k3 (cut_wr q2) (q.up k k3 ((l1.trans k1 k.kn l2).trans k2 k.kn l3))⟩
/-- [..] * n, the list written there -/
theorem flat_rep {α : Type} (n : Nat) (x : α) : (List.replicate n [x]).flatten = List.replicate n x := by
  induction n with
  | zero => rfl
  | succ n ih => rw [List.replicate_succ, List.flatten_cons, ih, List.replicate_succ] <;> rfl
theorem paired_rep {α β : Type} {F : α → β → Prop} {x : α} {y : β} (h : F x y) : ∀ n : Nat, Paired F (List.replicate n x) (List.replicate n y)
  | 0 => .nil
  | n + 1 => .cons h (paired_rep h n)
theorem Ev.repG {ta : TE} {w' : W} {M' : List Cell} (ha : Ev K ta s M (.dat d) M1) (hb : Ev K tb s M1 (di i) M2) (hi : 0 ≤ i ∧ i ≤ 1000)
    (fin : ∀ G al H xs Q, Ok K G al M2 H → Paired (WR K G al) (List.replicate i.toNat (.dat d)) xs → Then K M' w' G al H Q → ∀ p, H p = none → Q (.ref p) (upd H p (.lst xs))) : Ev K (tOp rRep (tLst (tCons ta tNil)) tb) s M w' M' := fun G al σ H k sr Q q =>
  ha G al σ H k sr _ fun v G1 al1 H1 k1 l1 r1 => ⟨by show 1 ≤ sizeLine; decide, fun p hp => hb _ _ σ _ (k1.frz (o := .lst [v]) hp) (sr.up (l1.trans k1 k.kn (.frz k1 hp))) _ fun v2 G2 al2 H2 k2 l2 r2 => by
    cases r2
    have e2 : H2 p = some (.lst [v]) := l2.fr p _ upd_same (k1.nin hp)
    refine ⟨p, i, [v], rfl, rfl, e2, by omega, by omega, by rw [List.length_singleton, Nat.one_mul]; exact Nat.le_trans (by omega : i.toNat ≤ 1000) (by decide), ?_⟩
    rw [flat_rep]
    exact fin G2 al2 H2 _ Q k2 (paired_rep ((r1.up (.frz k1 hp)).up l2) _) (q.up k k2 ((l1.trans k1 k.kn (.frz k1 hp)).trans (k1.frz hp) k.kn l2))⟩
theorem rep_map {α β : Type} (f : α → β) (n : Nat) (x : α) : List.replicate n (f x) = (List.replicate n x).map f := by rw [List.map_replicate]
theorem Ev.rep (ha : Ev K ta s M (.dat d) M1) (hb : Ev K tb s M1 (di i) M2) (hi : 0 ≤ i ∧ i ≤ 1000) : Ev K (tOp rRep (tLst (tCons ta tNil)) tb) s M (dl (List.replicate i.toNat d)) M2 :=
  .repG ha hb hi fun G al H xs Q k h q => alloc_lst k (wr_dqa (K := K) (al := al) (by rw [← rep_map]; exact h)) q
theorem Ev.repC (ha : Ev K ta s M (.dat d) M1) (hb : Ev K tb s M1 (di i) M2) (hi : 0 ≤ i ∧ i ≤ 1000) : Ev K (tOp rRep (tLst (tCons ta tNil)) tb) s M (.cel M2.length) (M2 ++ [.lst (List.replicate i.toNat (.dat d))]) :=
  .repG ha hb hi fun G al H xs Q k h q => alloc_cell k h q
/-- xs + ys -/
theorem Ev.cat {es : List PyData} (ha : Ev K ta s M (dl ds) M1) (hb : Ev K tb s M1 (dl es) M2) (hl : ds.length + es.length ≤ 1000) : Ev K (tOp rCat ta tb) s M (dl (ds ++ es)) M2 :=
  .op ha hb fun G al H x y k hx hy Q q => by
    cases hx with
    | lst e1 q1 =>
      cases hy with
      | lst e2 q2 => exact ⟨_, _, _, _, rfl, rfl, k.ex _ _ e1, k.ex _ _ e2, Nat.le_trans (by rw [dqa_len q1, dqa_len q2]; exact hl) (by decide), alloc_lst k (dqa_app q1 q2) q⟩
theorem Ev.catC {ds1 ds2 : List W} (ha : Ev K ta s M w1 M1) (hb : Ev K tb s M1 w2 M2) (h1 : ∀ G al H v, Ok K G al M2 H → WR K G al w1 v → ∃ a xs, v = .ref a ∧ H a = some (.lst xs) ∧ Paired (WR K G al) ds1 xs)
    (h2 : ∀ G al H v, Ok K G al M2 H → WR K G al w2 v → ∃ a xs, v = .ref a ∧ H a = some (.lst xs) ∧ Paired (WR K G al) ds2 xs) (hl : ds1.length + ds2.length ≤ 1000) : Ev K (tOp rCat ta tb) s M (.cel M2.length) (M2 ++ [.lst (ds1 ++ ds2)]) :=
  .op ha hb fun G al H x y k hx hy Q q => by
    obtain ⟨a, xs, rfl, e1, q1⟩ := h1 G al H x k hx
    obtain ⟨b, ys, rfl, e2, q2⟩ := h2 G al H y k hy
    exact ⟨_, _, _, _, rfl, rfl, e1, e2, Nat.le_trans (by rw [← paired_len q1, ← paired_len q2]; exact hl) (by decide), alloc_cell k (paired_app q1 q2) q⟩

/-! ### truth -/
theorem EvB.val (h : Ev K te s M (db b) M1) : EvB K (tB te) s M b M1 := fun G al σ H k sr Q q => h G al σ H k sr _ fun v G1 al1 H1 k1 l1 r1 => by
  cases r1
  exact ⟨b, rfl, q _ _ _ k1 l1⟩
theorem EvB.test (h : Ev K te s M (db b) M1) : EvB K (tTest te) s M b M1 := fun G al σ H k sr Q q => h G al σ H k sr _ fun v G1 al1 H1 k1 l1 r1 => by
  cases r1
  exact ⟨b, rfl, q _ _ _ k1 l1⟩
theorem EvB.not (h : EvB K tt s M b M1) : EvB K (tNot tt) s M (!b) M1 := fun G al σ H k sr Q q => h G al σ H k sr _ q
theorem EvB.and (h : EvB K tt s M b M) (h2 : b = true → EvB K tu s M c M) : EvB K (tAnd tt tu) s M (b && c) M := fun G al σ H k sr Q q => h G al σ H k sr _ fun G1 al1 H1 k1 l1 => by
  cases b with
  | true =>
    show tu σ H1 Q
    exact h2 rfl G1 al1 σ H1 k1 (sr.up l1) Q fun G2 al2 H2 k2 l2 => q _ _ _ k2 (l1.trans k1 k.kn l2)
  | false => exact q _ _ _ k1 l1
theorem EvB.or (h : EvB K tt s M b M) (h2 : b = false → EvB K tu s M c M) : EvB K (tOr tt tu) s M (b || c) M := fun G al σ H k sr Q q => h G al σ H k sr _ fun G1 al1 H1 k1 l1 => by
  cases b with
  | false =>
    show tu σ H1 Q
    exact h2 rfl G1 al1 σ H1 k1 (sr.up l1) Q fun G2 al2 H2 k2 l2 => q _ _ _ k2 (l1.trans k1 k.kn l2)
  | true => exact q _ _ _ k1 l1
theorem EvB.yes : EvB K tYes s M true M := fun G al σ H k sr Q q => q _ _ _ k .refl
theorem EvB.is (h : EvB K tt s M b M1) (e : b = c) : EvB K tt s M c M1 := e ▸ h
theorem Ev.and (h : Ev K ta s M (db b) M) (h2 : b = true → Ev K tb s M (db c) M) : Ev K (tAndV ta tb) s M (db (b && c)) M := fun G al σ H k sr Q q => h G al σ H k sr _ fun v G1 al1 H1 k1 l1 r1 => by
  cases r1
  refine ⟨b, rfl, ?_⟩
  cases b with
  | true =>
    show tb σ H1 Q
    exact h2 rfl G1 al1 σ H1 k1 (sr.up l1) Q (q.up k k1 l1)
  | false => exact q _ _ _ _ k1 l1 (Dq.bl _)
theorem Ev.or (h : Ev K ta s M (db b) M) (h2 : b = false → Ev K tb s M (db c) M) : Ev K (tOrV ta tb) s M (db (b || c)) M := fun G al σ H k sr Q q => h G al σ H k sr _ fun v G1 al1 H1 k1 l1 r1 => by
  cases r1
  refine ⟨b, rfl, ?_⟩
  cases b with
  | false =>
    show tb σ H1 Q
    exact h2 rfl G1 al1 σ H1 k1 (sr.up l1) Q (q.up k k1 l1)
  | true => exact q _ _ _ _ k1 l1 (Dq.bl _)
theorem Ev.not (h : Ev K ta s M (db b) M1) : Ev K (tNotV ta) s M (db (!b)) M1 := fun G al σ H k sr Q q => h G al σ H k sr _ fun v G1 al1 H1 k1 l1 r1 => by
  cases r1
  exact ⟨b, rfl, q _ _ _ _ k1 l1 (Dq.bl _)⟩
/-- a < b < c -/
theorem Ev.chain {f g : Int → Int → Bool} {n : Int} (ha : Ev K ta s M (di i) M) (hb : Ev K tb s M (di j) M) (hc : f i j = true → Ev K tc s M (di n) M) : Ev K (tChain (rI0 fun a b => .bl (f a b)) (rI0 fun a b => .bl (g a b)) ta tb tc) s M (db (f i j && g j n)) M := fun G al σ H k sr Q q =>
  ha G al σ H k sr _ fun v G1 al1 H1 k1 l1 r1 => hb G1 al1 σ H1 k1 (sr.up l1) _ fun v2 G2 al2 H2 k2 l2 r2 => by
    cases r1
    cases r2
    have l12 := l1.trans k1 k.kn l2
    refine ⟨i, j, rfl, rfl, f i j, rfl, ?_⟩
    cases e : f i j with
    | true =>
      rw [if_pos rfl]
      exact hc e G2 al2 σ H2 k2 (sr.up l12) _ fun v3 G3 al3 H3 k3 l3 r3 => by
        cases r3
        refine ⟨j, n, rfl, rfl, ?_⟩
        have q' := q (.bl (f i j && g j n)) _ _ _ k3 (l12.trans k2 k.kn l3) (Dq.bl _)
        rw [e, Bool.true_and] at q'
        exact q'
    | false =>
      rw [if_neg Bool.false_ne_true]
      have q' := q (.bl (f i j && g j n)) _ _ _ k2 l12 (Dq.bl _)
      rw [e, Bool.false_and] at q'
      exact q'

/-! ### built-ins -/
theorem paired1 {α β : Type} {F : α → β → Prop} {a : α} {ys : List β} (h : Paired F [a] ys) : ∃ y, ys = [y] ∧ F a y := by
  cases h with
  | cons h1 h2 => cases h2; exact ⟨_, rfl, h1⟩
theorem paired2 {α β : Type} {F : α → β → Prop} {a b : α} {ys : List β} (h : Paired F [a, b] ys) : ∃ y z, ys = [y, z] ∧ F a y ∧ F b z := by
  cases h with
  | cons h1 h2 =>
    obtain ⟨z, rfl, h3⟩ := paired1 h2
    exact ⟨_, z, rfl, h1, h3⟩
theorem map_dat_ints (ns : List Int) : (ns.map PyData.int).map W.dat = ns.map di := by rw [List.map_map] <;> rfl
theorem Ev.sumL {ns : List Int} (h : Ev K te s M w M1) (hw : LstOf M1 w (ns.map di)) : Ev K (tCB (rSum K) (tCons te tNil)) s M (di ns.sum) M1 := .cb (ea_cons h ea_nil) fun G al H xs k r Q q => by
  obtain ⟨y, rfl, r1⟩ := paired1 r
  obtain ⟨a, xs, rfl, h1, h2⟩ := hw.sq k r1
  exact ⟨a, ns, rfl, by rw [← wr_ints h2]; exact h1, q _ _ _ _ k .refl (Dq.int _)⟩
theorem Ev.minL {ns : List Int} {m : Int} (h : Ev K te s M w M1) (hw : LstOf M1 w (ns.map di)) (hm : m ∈ ns) (hle : ∀ y ∈ ns, m ≤ y) : Ev K (tCB (rMin K) (tCons te tNil)) s M (di m) M1 := .cb (ea_cons h ea_nil) fun G al H xs k r Q q => by
  obtain ⟨y, rfl, r1⟩ := paired1 r
  obtain ⟨a, xs, rfl, h1, h2⟩ := hw.sq k r1
  refine ⟨a, ns, rfl, by rw [← wr_ints h2]; exact h1, List.length_pos_of_mem hm, fun m' h3 h4 => ?_⟩
  have e : m' = m := by
    have a1 := h4 m hm
    have a2 := hle m' h3
    omega
  subst e
  exact q _ _ _ _ k .refl (Dq.int _)
theorem Ev.all {bs : List Bool} (h : Ev K te s M (dl (bs.map .bool)) M1) : Ev K (tCB (rAll K) (tCons te tNil)) s M (db (bs.all id)) M1 := .cb (ea_cons h ea_nil) fun G al H xs k r Q q => by
  obtain ⟨y, rfl, r1⟩ := paired1 r
  cases r1 with
  | lst e1 q1 => exact ⟨_, bs, rfl, .of (by rw [← dqa_bools q1]; exact k.ex _ _ e1), q _ _ _ _ k .refl (Dq.bl _)⟩
theorem Ev.any {bs : List Bool} (h : Ev K te s M (dl (bs.map .bool)) M1) : Ev K (tCB (rAny K) (tCons te tNil)) s M (db (bs.any id)) M1 := .cb (ea_cons h ea_nil) fun G al H xs k r Q q => by
  obtain ⟨y, rfl, r1⟩ := paired1 r
  cases r1 with
  | lst e1 q1 => exact ⟨_, bs, rfl, .of (by rw [← dqa_bools q1]; exact k.ex _ _ e1), q _ _ _ _ k .refl (Dq.bl _)⟩
def tyName : PyData → String
  | .none => "NoneType"
  | .bool _ => "bool"
  | .int _ => "int"
  | .str _ => "str"
  | .list _ => "list"
  | .tuple _ => "tuple"
  | .dict _ => "dict"
theorem dq_ty {v : V} (h : Dq H v d) : TyX K H v (.type (tyName d)) := by
  cases h with
  | non => exact .base .non
  | bl b => exact .base (.bl b)
  | int i => exact .base (.int i)
  | str x => exact .base (.str x)
  | lst e _ => exact .base (.lst e)
  | tup e _ => exact .base (.tup e)
def wTy : W → String
  | .dat d => tyName d
  | _ => "list"
/-- isinstance(x, T), T a built-in class -/
theorem Ev.isi {T : String} {tv : TE} (h : Ev K te s M (.dat d) M1) (htv : tv = tC (.ty T)) (hk : kitB (tyName d) T = some b) : Ev K (tCB (rIsi K) (tCons te (tCons tv tNil))) s M (db b) M1 := fun G al σ H k sr Q q =>
  h G al σ H k sr _ fun v G1 al1 H1 k1 l1 r1 => by
    subst htv
    exact ⟨v, .ty T, .type (tyName d), .type T, b, rfl, .ty T, dq_ty (dq_mono k1.ex r1), kit_ty hk, q _ _ _ _ k1 l1 (Dq.bl _)⟩
theorem Ev.isiL {T : String} {tv : TE} (h : Ev K te s M w M1) (hw : LstOf M1 w ws) (hn : ∀ ns, w ≠ .scr ns) (htv : tv = tC (.ty T)) (hk : kitB "list" T = some b) : Ev K (tCB (rIsi K) (tCons te (tCons tv tNil))) s M (db b) M1 := fun G al σ H k sr Q q =>
  h G al σ H k sr _ fun v G1 al1 H1 k1 l1 r1 => by
    subst htv
    have ty : TyX K H1 v (.type "list") := by
      cases hw with
      | dat ds =>
        cases r1 with
        | lst e _ => exact .base (.lst (k1.ex _ _ e))
      | @cel j ws hm =>
        obtain ⟨a, e, rfl⟩ := r1
        obtain ⟨xs, h1, h2⟩ := k1.ce j a _ e hm
        exact .base (.lst h1)
      | scr ns => exact absurd rfl (hn ns)
    exact ⟨v, .ty T, .type "list", .type T, b, rfl, .ty T, ty, kit_ty hk, q _ _ _ _ k1 l1 (Dq.bl _)⟩
def rMax2 : List V → Hp → VK → Prop := fun xs H Q => ∃ i j, xs = [.int i, .int j] ∧ Q (.int (if j > i then j else i)) H
def rMin2 : List V → Hp → VK → Prop := fun xs H Q => ∃ i j, xs = [.int i, .int j] ∧ Q (.int (if j < i then j else i)) H
theorem c_max2 {X : Cx} (hc : X.calm = true) : CallR X (.builtin "max") rMax2 := call_max2 hc
theorem c_min2 {X : Cx} (hc : X.calm = true) : CallR X (.builtin "min") rMin2 := call_min2 hc
theorem Ev.max2 (ha : Ev K ta s M (di i) M1) (hb : Ev K tb s M1 (di j) M2) : Ev K (tCB rMax2 (tCons ta (tCons tb tNil))) s M (di (max i j)) M2 := .cb (ea_cons ha (ea_cons hb ea_nil)) fun G al H xs k r Q q => by
  obtain ⟨y, z, rfl, r1, r2⟩ := paired2 r
  cases r1
  cases r2
  have e : max i j = if j > i then j else i := by
    by_cases h : j > i
    · rw [if_pos h]; omega
    · rw [if_neg h]; omega
  exact ⟨i, j, rfl, by rw [← e]; exact q _ _ _ _ k .refl (Dq.int _)⟩
theorem Ev.min2 (ha : Ev K ta s M (di i) M1) (hb : Ev K tb s M1 (di j) M2) : Ev K (tCB rMin2 (tCons ta (tCons tb tNil))) s M (di (min i j)) M2 := .cb (ea_cons ha (ea_cons hb ea_nil)) fun G al H xs k r Q q => by
  obtain ⟨y, z, rfl, r1, r2⟩ := paired2 r
  cases r1
  cases r2
  have e : min i j = if j < i then j else i := by
    by_cases h : j < i
    · rw [if_pos h]; omega
    · rw [if_neg h]; omega
  exact ⟨i, j, rfl, by rw [← e]; exact q _ _ _ _ k .refl (Dq.int _)⟩
end
end Vx

set_option Elab.async false
set_option linter.all false
set_option maxRecDepth 100000
set_option maxHeartbeats 4000000
/-! Vx3: statements, loops, comprehensions, defs, at the level of values -/
namespace Vx
open PySem L2

/-- how a statement ends -/
inductive Out where
  | nx (s : List Sl) (M : List Cell)
  | rt (w : W) (M : List Cell)
  | bk (s : List Sl) (M : List Cell)
  | ct (s : List Sl) (M : List Cell)
  | rz (c : Value) (M : List Cell)
/-- how a call ends -/
inductive Res where
  | ret (w : W) (M : List Cell)
  | rz (c : Value) (M : List Cell)
section
variable (K : PySem.W.Frag) (E : XK)
def Nxt (P : St → Hp → Prop) (s : List Sl) (M : List Cell) (G : Hp) (al : List Addr) (H : Hp) : Prop := ∀ σ' G' al' H', Ok K G' al' M H' → Le G al H G' al' H' → SR K G' al' s σ' → P σ' H'
def Post (D : Ends) (G : Hp) (al : List Addr) (H : Hp) : Out → Prop
  | .nx s M => Nxt K D.nx s M G al H
  | .rt w M => Then K M w G al H D.rt
  | .bk s M => Nxt K D.bk s M G al H
  | .ct s M => Nxt K D.ct s M G al H
  | .rz c M => ∀ G' al' H', Ok K G' al' M H' → Le G al H G' al' H' → E c none H'
def Big (t : TS) (s : List Sl) (M : List Cell) (o : Out) : Prop := ∀ G al σ H D, Ok K G al M H → SR K G al s σ → Post K E D G al H o → t D σ H
/-- a target takes w, then the body -/
def BigG (g : TG) (tb : TS) (w : W) (s : List Sl) (M : List Cell) (o : Out) : Prop := ∀ G al σ H D v, Ok K G al M H → SR K G al s σ → WR K G al w v → Post K E D G al H o → g v σ H fun σ2 H2 => tb D σ2 H2
end
def EndR (K : PySem.W.Frag) (G : Hp) (al : List Addr) (H : Hp) (Q : VK) (E : XK) : Res → Prop
  | .ret w M' => Then K M' w G al H Q
  | .rz c M' => ∀ G' al' H', Ok K G' al' M' H' → Le G al H G' al' H' → E c none H'
/-- a contract of a def: the table and the arguments, and how it ends -/
def spOf (K : PySem.W.Frag) (T : List Cell → List W → Res → Prop) : Sp := fun us H Q E => ∃ M ws o, T M ws o ∧ ∃ G al, Ok K G al M H ∧ Paired (WR K G al) ws us ∧ EndR K G al H Q E o
/-- the slots of s', but some are not known any more -/
abbrev Sub : List Sl → List Sl → Prop := Paired fun a b => b = none ∨ b = a

section
variable {K : PySem.W.Frag} {E : XK} {G H : Hp} {al : List Addr} {M M0 M1 M2 M3 : List Cell} {s s1 s2 s3 : List Sl} {σ : St} {te ta tb tc to ti : TE} {tt : TT} {t u v : TS} {w w1 w2 w3 : W} {ws : List W} {ds : List PyData} {d : PyData} {i j : Int} {b c : Bool} {o o1 : Out} {D : Ends}
theorem Sub.refl : ∀ s : List Sl, Sub s s
  | [] => .nil
  | _ :: r => .cons (.inr rfl) (Sub.refl r)
theorem Sub.trans : ∀ {a b c : List Sl}, Sub a b → Sub b c → Sub a c
  | _, _, _, .nil, .nil => .nil
  | _, _, _, .cons h t, .cons h' t' => .cons (by
      rcases h' with e | e
      · exact .inl e
      · rw [e]
        exact h) (Sub.trans t t')
theorem SR.weak : ∀ {s s1 : List Sl} {σ : St}, SR K G al s σ → Sub s s1 → SR K G al s1 σ
  | _, _, _, .nil, .nil => .nil
  | _, _, _, .cons h t, .cons h' t' => .cons (fun w e => by
      rcases h' with e' | e'
      · rw [e'] at e; cases e
      · exact h w (by rw [← e']; exact e)) (SR.weak t t')
theorem Nxt.up {P : St → Hp → Prop} {G1 H1 : Hp} {al1 : List Addr} (q : Nxt K P s M2 G al H) (k : Ok K G al M H) (k1 : Ok K G1 al1 M1 H1) (l : Le G al H G1 al1 H1) : Nxt K P s M2 G1 al1 H1 :=
  fun σ' G' al' H' k' l' r' => q σ' G' al' H' k' (l.trans k1 k.kn l') r'
theorem Nxt.weak {P : St → Hp → Prop} (q : Nxt K P s1 M1 G al H) (h : Sub s s1) : Nxt K P s M1 G al H := fun σ' G' al' H' k l r => q σ' G' al' H' k l (r.weak h)
theorem Post.up {G1 H1 : Hp} {al1 : List Addr} (q : Post K E D G al H o) (k : Ok K G al M H) (k1 : Ok K G1 al1 M1 H1) (l : Le G al H G1 al1 H1) : Post K E D G1 al1 H1 o := by
  cases o with
  | nx s M => exact Nxt.up q k k1 l
  | rt w M => exact Then.up q k k1 l
  | bk s M => exact Nxt.up q k k1 l
  | ct s M => exact Nxt.up q k k1 l
  | rz c M => exact fun G' al' H' k' l' => q G' al' H' k' (l.trans k1 k.kn l')

/-! ### statements -/
theorem Big.weak (h : Big K E t s1 M o) (q : Sub s s1) : Big K E t s M o := fun G al σ H D k r p => h G al σ H D k (r.weak q) p
theorem Big.weakN (h : Big K E t s M (.nx s1 M1)) (q : Sub s1 s2) : Big K E t s M (.nx s2 M1) := fun G al σ H D k r p => h G al σ H D k r (Nxt.weak p q)
theorem Big.is (h : Big K E t s M o) (e : o = o1) : Big K E t s M o1 := e ▸ h
theorem Big.next : Big K E tNext s M (.nx s M) := fun G al σ H D k r p => p σ G al H k .refl r
theorem Big.seq (h1 : Big K E t s M (.nx s1 M1)) (h2 : Big K E u s1 M1 o) : Big K E (tSeq t u) s M o := fun G al σ H D k r p =>
  h1 G al σ H { D with nx := u D } k r fun σ' G' al' H' k' l' r' => h2 G' al' σ' H' D k' r' (p.up k k' l')
theorem Big.seqR (h1 : Big K E t s M (.rt w M1)) : Big K E (tSeq t u) s M (.rt w M1) := fun G al σ H D k r p => h1 G al σ H { D with nx := u D } k r p
theorem Big.seqZ {c : Value} (h1 : Big K E t s M (.rz c M1)) : Big K E (tSeq t u) s M (.rz c M1) := fun G al σ H D k r p => h1 G al σ H { D with nx := u D } k r p
theorem Big.seqB (h1 : Big K E t s M (.bk s1 M1)) : Big K E (tSeq t u) s M (.bk s1 M1) := fun G al σ H D k r p => h1 G al σ H { D with nx := u D } k r p
theorem Big.seqC (h1 : Big K E t s M (.ct s1 M1)) : Big K E (tSeq t u) s M (.ct s1 M1) := fun G al σ H D k r p => h1 G al σ H { D with nx := u D } k r p
theorem Big.assoc (h : Big K E (tSeq t (tSeq u v)) s M o) : Big K E (tSeq (tSeq t u) v) s M o := h
theorem Big.seqN (h : Big K E u s M o) : Big K E (tSeq tNext u) s M o := h
theorem Big.asg {n : Nat} (h : Ev K te s M w M1) : Big K E (tAsg te (gName n)) s M (.nx (s.set n (some w)) M1) := fun G al σ H D k r p =>
  h G al σ H k r _ fun v G1 al1 H1 k1 l1 r1 => p _ G1 al1 H1 k1 l1 (sr_set (r.up l1) r1)
/-- a, b, c = a tuple -/
theorem Big.unpack3 {a b c : Nat} {x y z : PyData} (h : Ev K te s M (dt [x, y, z]) M1) : Big K E (tAsg te (gTup K 3 (gCons (gName a) (gCons (gName b) (gCons (gName c) gNil))))) s M (.nx (((s.set a (some (.dat x))).set b (some (.dat y))).set c (some (.dat z))) M1) := fun G al σ H D k r p =>
  h G al σ H k r _ fun v G1 al1 H1 k1 l1 r1 => by
    cases r1 with
    | tup e q =>
      cases q with
      | cons h1 q => cases q with
        | cons h2 q => cases q with
          | cons h3 q =>
            cases q
            exact ⟨_, _, rfl, .of (k1.ex _ _ e), rfl, _, _, rfl, _, _, rfl, _, _, rfl, rfl, p _ G1 al1 H1 k1 l1 (sr_set (sr_set (sr_set (r.up l1) (w := .dat x) h1) (w := .dat y) h2) (w := .dat z) h3)⟩
theorem Big.unpack2 {a b : Nat} {x y : PyData} (h : Ev K te s M (dt [x, y]) M1) : Big K E (tAsg te (gTup K 2 (gCons (gName a) (gCons (gName b) gNil)))) s M (.nx ((s.set a (some (.dat x))).set b (some (.dat y))) M1) := fun G al σ H D k r p =>
  h G al σ H k r _ fun v G1 al1 H1 k1 l1 r1 => by
    cases r1 with
    | tup e q =>
      cases q with
      | cons h1 q => cases q with
        | cons h2 q =>
            cases q
            exact ⟨_, _, rfl, .of (k1.ex _ _ e), rfl, _, _, rfl, _, _, rfl, rfl, p _ G1 al1 H1 k1 l1 (sr_set (sr_set (r.up l1) (w := .dat x) h1) (w := .dat y) h2)⟩
theorem Big.par {a b : Nat} {ta : TA} (h : EvA K ta s M [w1, w2] M1) : Big K E (tPar a b ta) s M (.nx ((s.set a (some w1)).set b (some w2)) M1) := fun G al σ H D k r p =>
  h G al σ H k r _ fun vs G1 al1 H1 k1 l1 r1 => by
    obtain ⟨x, y, rfl, q1, q2⟩ := paired2 r1
    exact ⟨x, y, rfl, p _ G1 al1 H1 k1 l1 (sr_set (sr_set (r.up l1) q1) q2)⟩
theorem Big.ret (h : Ev K te s M w M1) : Big K E (tRet te) s M (.rt w M1) := fun G al σ H D k r p => h G al σ H k r _ p
theorem Big.drop (h : Ev K te s M w M1) : Big K E (tDrop te) s M (.nx s M1) := fun G al σ H D k r p => h G al σ H k r _ fun v G1 al1 H1 k1 l1 r1 => p σ G1 al1 H1 k1 l1 (r.up l1)
theorem Big.ite (hc : EvB K tt s M b M) (h1 : b = true → Big K E t s M o) (h2 : b = false → Big K E u s M o) : Big K E (tIfS tt t u) s M o := fun G al σ H D k r p =>
  hc G al σ H k r _ fun G1 al1 H1 k1 l1 => by
    cases b with
    | true => exact h1 rfl G1 al1 σ H1 D k1 (r.up l1) (p.up k k1 l1)
    | false => exact h2 rfl G1 al1 σ H1 D k1 (r.up l1) (p.up k k1 l1)
/-- an if ahead of the rest: both ways go through the rest -/
theorem Big.seqIte (hc : EvB K tt s M b M) (h1 : b = true → Big K E (tSeq t v) s M o) (h2 : b = false → Big K E (tSeq u v) s M o) : Big K E (tSeq (tIfS tt t u) v) s M o := fun G al σ H D k r p =>
  hc G al σ H k r _ fun G1 al1 H1 k1 l1 => by
    cases b with
    | true => exact h1 rfl G1 al1 σ H1 D k1 (r.up l1) (p.up k k1 l1)
    | false => exact h2 rfl G1 al1 σ H1 D k1 (r.up l1) (p.up k k1 l1)
/-- if ..: x = e, joined -/
theorem Big.ite1 {n : Nat} (hc : EvB K tt s M b M) (h1 : b = true → Ev K te s M w1 M) (h0 : s[n]? = some (some w2)) (e : w = if b = true then w1 else w2) : Big K E (tIfS tt (tAsg te (gName n)) tNext) s M (.nx (s.set n (some w)) M) := .ite hc (fun hb => by
  have q := Big.asg (E := E) (n := n) (h1 hb)
  rw [e, if_pos hb]
  exact q) (fun hb => by
  have e2 : s.set n (some w) = s := by
    rw [e, hb, if_neg Bool.false_ne_true]
    obtain ⟨hl, he⟩ := List.getElem?_eq_some_iff.mp h0
    rw [← he, List.set_getElem_self]
  rw [e2]
  exact .next)
/-- xs[i] = e -/
theorem Big.setItem {a n : Nat} (he : Ev K te s M w M1) (ho : Ev K to s M1 (.cel a) M2) (hi : Ev K ti s M2 (di i) M3) (hm : M3[a]? = some (.lst ws)) (hx : ixN ws.length i = some n) :
    Big K E (tAsg te (gSub to ti rSetL)) s M (.nx s (M3.set a (.lst (ws.set n w)))) := fun G al σ H D k r p =>
  he G al σ H k r _ fun v1 G1 al1 H1 k1 l1 r1 => ho G1 al1 σ H1 k1 (r.up l1) _ fun v2 G2 al2 H2 k2 l2 r2 => hi G2 al2 σ H2 k2 ((r.up l1).up l2) _ fun v3 G3 al3 H3 k3 l3 r3 => by
    cases r3
    obtain ⟨p0, e0, rfl⟩ := r2.up l3
    obtain ⟨xs, e1, q1⟩ := k3.ce a p0 _ e0 hm
    have l : Le G al H G3 al3 H3 := (l1.trans k1 k.kn l2).trans k2 k.kn l3
    have k4 : Ok K G3 al3 (M3.set a (.lst (ws.set n w))) (upd H3 p0 (.lst (xs.set n v1))) := k3.set e0 hm (fun z => nomatch z) ⟨_, upd_same, paired_set ((r1.up l2).up l3) n q1⟩
    refine ⟨p0, xs, i, n, rfl, rfl, e1, by rw [← paired_len q1]; exact hx, p σ G3 al3 _ k4 (l.trans k3 k.kn (.set k3 (List.mem_of_getElem? e0))) ?_⟩
    exact r.up (l.trans k3 k.kn (Le.set (o := .lst (xs.set n v1)) k3 (List.mem_of_getElem? e0)))
/-- a list's method that changes it -/
theorem Big.lm {T : String} {rm : V → List V → Hp → VK → Prop} {ta : TA} {a : Nat} {ws' : List W} (ho : Ev K to s M (.cel a) M1) (ha : EvA K ta s M1 ws M2) (hm1 : ∃ us, M1[a]? = some (.lst us)) (hm : M2[a]? = some (.lst ws')) (us : List W)
    (hr : ∀ G al H p xs vs, Ok K G al M2 H → al[a]? = some p → H p = some (.lst xs) → Paired (WR K G al) ws' xs → Paired (WR K G al) ws vs → ∀ Q : VK, (∀ zs, Paired (WR K G al) us zs → Q .non (upd H p (.lst zs))) → rm (.ref p) vs H Q) :
    Big K E (tDrop (tBM K "list" rm to ta)) s M (.nx s (M2.set a (.lst us))) := fun G al σ H D k r p =>
  ho G al σ H k r _ fun v1 G1 al1 H1 k1 l1 r1 => by
    obtain ⟨p0, e0, rfl⟩ := id r1
    obtain ⟨us1, hm1⟩ := hm1
    obtain ⟨xs1, e1, _⟩ := k1.ce a p0 _ e0 hm1
    refine ⟨.inl ⟨rfl, xs1, .of e1⟩, ha G1 al1 σ H1 k1 (r.up l1) _ fun vs G2 al2 H2 k2 l2 r2 => ?_⟩
    obtain ⟨p1, e2, e3⟩ := r1.up l2
    cases e3
    obtain ⟨xs, e4, q4⟩ := k2.ce a _ _ e2 hm
    have l : Le G al H G2 al2 H2 := l1.trans k1 k.kn l2
    refine hr G2 al2 H2 _ xs vs k2 e2 e4 q4 r2 _ fun zs hz => ?_
    have k4 : Ok K G2 al2 (M2.set a (.lst us)) (upd H2 p0 (.lst zs)) := k2.set e2 hm (fun z => nomatch z) ⟨_, upd_same, hz⟩
    have l4 : Le G al H G2 al2 (upd H2 p0 (.lst zs)) := l.trans k2 k.kn (.set k2 (List.mem_of_getElem? e2))
    exact p σ G2 al2 _ k4 l4 (r.up l4)
theorem Big.append {a : Nat} (ho : Ev K to s M (.cel a) M1) (ha : Ev K te s M1 w M2) (hm1 : ∃ us, M1[a]? = some (.lst us)) (hm : M2[a]? = some (.lst ws)) (hz : ws.length ≤ 100000) :
    Big K E (tDrop (tBM K "list" rAppend to (tCons te tNil))) s M (.nx s (M2.set a (.lst (ws ++ [w])))) :=
  .lm (T := "list") ho (ea_cons ha ea_nil) hm1 hm _ fun G al H p xs vs k e0 e1 q1 q2 Q hq => by
    obtain ⟨y, rfl, h2⟩ := paired1 q2
    exact ⟨p, xs, y, rfl, rfl, e1, Nat.lt_of_le_of_lt (by rw [← paired_len q1]; exact hz) (by decide), hq _ (paired_app q1 (.cons h2 .nil))⟩
def rInsert : V → List V → Hp → VK → Prop := fun x vs H Q => ∃ (l : Addr) (xs : List V) (i : Int) (y : V), x = .ref l ∧ vs = [.int i, y] ∧ H l = some (.lst xs) ∧ xs.length < sizeLine ∧ 0 ≤ i ∧ i < 2 ^ 63 ∧ Q .non (upd H l (.lst (xs.take i.toNat ++ [y] ++ xs.drop i.toNat)))
theorem m_insert {X : Cx} : MtR X "list.insert" rInsert := mt_insert
theorem Big.insert {a : Nat} (ho : Ev K to s M (.cel a) M1) (hi : Ev K ti s M1 (di i) M2) (ha : Ev K te s M2 w M3) (hm1 : ∃ us, M1[a]? = some (.lst us)) (hm : M3[a]? = some (.lst ws)) (hz : ws.length ≤ 100000) (h0 : 0 ≤ i ∧ i ≤ 100000) :
    Big K E (tDrop (tBM K "list" rInsert to (tCons ti (tCons te tNil)))) s M (.nx s (M3.set a (.lst (ws.take i.toNat ++ [w] ++ ws.drop i.toNat)))) :=
  .lm (T := "list") ho (ea_cons hi (ea_cons ha ea_nil)) hm1 hm _ fun G al H p xs vs k e0 e1 q1 q2 Q hq => by
    obtain ⟨x, y, rfl, h1, h2⟩ := paired2 q2
    cases h1
    exact ⟨p, xs, i, y, rfl, rfl, e1, Nat.lt_of_le_of_lt (by rw [← paired_len q1]; exact hz) (by decide), h0.1, by omega, hq _ (paired_app (paired_app (paired_take _ q1) (.cons h2 .nil)) (paired_drop _ q1))⟩
theorem Big.clear {a : Nat} (ho : Ev K to s M (.cel a) M1) (hm : M1[a]? = some (.lst ws)) :
    Big K E (tDrop (tBM0 K "list" rClear to)) s M (.nx s (M1.set a (.lst []))) := fun G al σ H D k r p =>
  ho G al σ H k r _ fun v1 G1 al1 H1 k1 l1 r1 => by
    obtain ⟨p0, e0, rfl⟩ := id r1
    obtain ⟨xs, e1, _⟩ := k1.ce a p0 _ e0 hm
    have k4 : Ok K G1 al1 (M1.set a (.lst [])) (upd H1 p0 (.lst [])) := k1.set e0 hm (fun z => nomatch z) ⟨_, upd_same, .nil⟩
    have l4 : Le G al H G1 al1 (upd H1 p0 (.lst [])) := l1.trans k1 k.kn (.set k1 (List.mem_of_getElem? e0))
    exact ⟨.inl ⟨rfl, xs, .of e1⟩, p0, xs, rfl, rfl, e1, p σ G1 al1 _ k4 l4 (r.up l4)⟩

/-! ### dicts with whole keys -/
section
variable {κ β : Type} [DecidableEq κ]
def valW (kvs : List (κ × β)) (k : κ) : Option β := (kvs.find? fun kv => decide (kv.1 = k)).map (·.2)
def putW (kvs : List (κ × β)) (k : κ) (v : β) : List (κ × β) := if (kvs.any fun kv => decide (kv.1 = k)) = true then kvs.map (fun kv => if kv.1 = k then (kv.1, v) else kv) else kvs ++ [(k, v)]
def dropW (kvs : List (κ × β)) (k : κ) : List (κ × β) := kvs.filter fun kv => decide (kv.1 ≠ k)
end
abbrev KW (K : PySem.W.Frag) (G : Hp) (al : List Addr) : List (Key × W) → List (Key × V) → Prop := Paired fun p q => p.1 = q.1 ∧ WR K G al p.2 q.2
theorem kw_val {k : Key} : ∀ {kvs : List (Key × W)} {xs : List (Key × V)}, KW K G al kvs xs → (∀ {w}, valW kvs k = some w → ∃ v, valV xs k = some v ∧ WR K G al w v) ∧ (valW kvs k = none → valV xs k = none)
  | _, _, .nil => ⟨(fun h => nomatch h), fun _ => rfl⟩
  | _, _, .cons (a := p) (b := q) h t => by
    obtain ⟨i1, i2⟩ := kw_val (k := k) t
    by_cases e : p.1 = k
    · have e' : q.1 = k := h.1.symm.trans e
      rw [valV_pos e']
      have ew : ∀ r, valW (p :: r) k = some p.2 := fun r => by simp [valW, List.find?_cons, e]
      rw [ew]
      exact ⟨fun z => ⟨_, rfl, by cases z; exact h.2⟩, fun z => nomatch z⟩
    · have e' : ¬ q.1 = k := fun z => e (h.1.trans z)
      rw [valV_neg e']
      have ew : ∀ r, valW (p :: r) k = valW r k := fun r => by simp [valW, List.find?_cons, e]
      rw [ew]
      exact ⟨i1, i2⟩
theorem kw_any {k : Key} : ∀ {kvs : List (Key × W)} {xs : List (Key × V)}, KW K G al kvs xs → (kvs.any fun kv => decide (kv.1 = k)) = xs.any fun kv => decide (kv.1 = k)
  | _, _, .nil => rfl
  | _, _, .cons h t => by rw [List.any_cons, List.any_cons, kw_any t, h.1]
theorem kw_map {k : Key} {v : V} (h : WR K G al w v) : ∀ {kvs : List (Key × W)} {xs : List (Key × V)}, KW K G al kvs xs → KW K G al (kvs.map fun kv => if kv.1 = k then (kv.1, w) else kv) (xs.map fun kv => if kv.1 = k then (kv.1, v) else kv)
  | _, _, .nil => .nil
  | _, _, .cons (a := p) (b := q) hp t => by
    refine .cons ?_ (kw_map h t)
    dsimp only
    rw [← hp.1]
    by_cases e : p.1 = k
    · rw [if_pos e, if_pos e]
      exact ⟨rfl, h⟩
    · rw [if_neg e, if_neg e]
      exact hp
theorem kw_put {k : Key} {v : V} {kvs : List (Key × W)} {xs : List (Key × V)} (r : KW K G al kvs xs) (h : WR K G al w v) : KW K G al (putW kvs k w) (putK xs k v) := by
  unfold putW putK
  rw [kw_any r]
  by_cases e : (xs.any fun kv => decide (kv.1 = k)) = true
  · rw [if_pos e, if_pos e]
    exact kw_map h r
  · rw [if_neg e, if_neg e]
    exact paired_app r (.cons ⟨rfl, h⟩ .nil)
theorem kw_drop {k : Key} : ∀ {kvs : List (Key × W)} {xs : List (Key × V)}, KW K G al kvs xs → KW K G al (dropW kvs k) (dropK xs k)
  | _, _, .nil => .nil
  | _, _, .cons (a := p) (b := q) h t => by
    have ih := kw_drop (k := k) t
    unfold dropW dropK at ih ⊢
    by_cases e : p.1 = k
    · have e' : q.1 = k := h.1.symm.trans e
      rw [List.filter_cons_of_neg (by simp [e]), List.filter_cons_of_neg (by simp [e'])]
      exact ih
    · have e' : ¬ q.1 = k := fun z => e (h.1.trans z)
      rw [List.filter_cons_of_pos (by simp [e]), List.filter_cons_of_pos (by simp [e'])]
      exact .cons h ih
theorem Big.dput {a : Nat} {td ty tv : TE} {kvs : List (Key × W)} (hv : Ev K tv s M w M1) (hd : Ev K td s M1 (.cel a) M2) (hk : Ev K ty s M2 (di i) M3) (hm : M3[a]? = some (.dic kvs)) (hz : kvs.length ≤ 100000) :
    Big K E (sDPut td ty tv) s M (.nx s (M3.set a (.dic (putW kvs (.inl i) w)))) := fun G al σ H D k r p =>
  hv G al σ H k r _ fun v1 G1 al1 H1 k1 l1 r1 => hd G1 al1 σ H1 k1 (r.up l1) _ fun v2 G2 al2 H2 k2 l2 r2 => hk G2 al2 σ H2 k2 ((r.up l1).up l2) _ fun v3 G3 al3 H3 k3 l3 r3 => by
    cases r3
    obtain ⟨p0, e0, rfl⟩ := r2.up l3
    obtain ⟨xs, e1, q1⟩ := k3.ce a p0 _ e0 hm
    have l : Le G al H G3 al3 H3 := (l1.trans k1 k.kn l2).trans k2 k.kn l3
    have k4 : Ok K G3 al3 (M3.set a (.dic (putW kvs (.inl i) w))) (upd H3 p0 (.dK (putK xs (.inl i) v1))) := k3.set e0 hm (fun z => nomatch z) ⟨_, upd_same, kw_put q1 ((r1.up l2).up l3)⟩
    have l4 := l.trans k3 k.kn (Le.set (o := .dK (putK xs (.inl i) v1)) k3 (List.mem_of_getElem? e0))
    exact ⟨p0, _, rfl, DPut.k (k := .inl i) e1 (Nat.lt_of_le_of_lt (by rw [← paired_len q1]; exact hz) (by decide)), p σ G3 al3 _ k4 l4 (r.up l4)⟩
theorem Ev.dget {a : Nat} {td ty : TE} {kvs : List (Key × W)} (hd : Ev K td s M (.cel a) M1) (hk : Ev K ty s M1 (di i) M2) (hm : M2[a]? = some (.dic kvs)) (hv : valW kvs (.inl i) = some w) : Ev K (tDGet td ty) s M w M2 := fun G al σ H k r Q q =>
  hd G al σ H k r _ fun v2 G2 al2 H2 k2 l2 r2 => hk G2 al2 σ H2 k2 (r.up l2) _ fun v3 G3 al3 H3 k3 l3 r3 => by
    cases r3
    obtain ⟨p0, e0, rfl⟩ := r2.up l3
    obtain ⟨xs, e1, q1⟩ := k3.ce a p0 _ e0 hm
    obtain ⟨v, h1, h2⟩ := (kw_val q1).1 hv
    exact ⟨p0, v, rfl, by rw [← h1]; exact DGet.k (k := .inl i) e1, q _ _ _ _ k3 (l2.trans k2 k.kn l3) h2⟩
theorem kw_some {k : Key} {kvs : List (Key × W)} {xs : List (Key × V)} (r : KW K G al kvs xs) : (valV xs k).isSome = (valW kvs k).isSome := by
  cases e : valW kvs k with
  | none => rw [(kw_val r).2 e] <;> rfl
  | some w =>
    obtain ⟨v, h1, _⟩ := (kw_val r).1 e
    rw [h1] <;> rfl
theorem Ev.din {a : Nat} {td ty : TE} {kvs : List (Key × W)} (hk : Ev K ty s M (di i) M1) (hd : Ev K td s M1 (.cel a) M2) (hm : M2[a]? = some (.dic kvs)) : Ev K (tDIn ty td) s M (db (valW kvs (.inl i)).isSome) M2 := fun G al σ H k r Q q =>
  hk G al σ H k r _ fun v2 G2 al2 H2 k2 l2 r2 => hd G2 al2 σ H2 k2 (r.up l2) _ fun v3 G3 al3 H3 k3 l3 r3 => by
    cases r2
    obtain ⟨p0, e0, rfl⟩ := r3
    obtain ⟨xs, e1, q1⟩ := k3.ce a p0 _ e0 hm
    exact ⟨p0, _, rfl, DGet.k (k := .inl i) e1, by rw [kw_some q1]; exact q _ _ _ _ k3 (l2.trans k2 k.kn l3) (Dq.bl _)⟩
theorem Ev.dnotin {a : Nat} {td ty : TE} {kvs : List (Key × W)} (hk : Ev K ty s M (di i) M1) (hd : Ev K td s M1 (.cel a) M2) (hm : M2[a]? = some (.dic kvs)) : Ev K (tDNotIn ty td) s M (db (!(valW kvs (.inl i)).isSome)) M2 := fun G al σ H k r Q q =>
  hk G al σ H k r _ fun v2 G2 al2 H2 k2 l2 r2 => hd G2 al2 σ H2 k2 (r.up l2) _ fun v3 G3 al3 H3 k3 l3 r3 => by
    cases r2
    obtain ⟨p0, e0, rfl⟩ := r3
    obtain ⟨xs, e1, q1⟩ := k3.ce a p0 _ e0 hm
    exact ⟨p0, _, rfl, DGet.k (k := .inl i) e1, by rw [kw_some q1]; exact q _ _ _ _ k3 (l2.trans k2 k.kn l3) (Dq.bl _)⟩
theorem Big.dpop {a : Nat} {td ty : TE} {kvs : List (Key × W)} (hd : Ev K td s M (.cel a) M1) (hm1 : M1[a]? = some (.dic kvs)) (hk : Ev K ty s M1 (di i) M1) (hv : valW kvs (.inl i) = some w) : Big K E (tDrop (tDPop1 td ty)) s M (.nx s (M1.set a (.dic (dropW kvs (.inl i))))) := fun G al σ H D k r p =>
  hd G al σ H k r _ fun v2 G2 al2 H2 k2 l2 r2 => by
    obtain ⟨p0, e0, rfl⟩ := id r2
    obtain ⟨xs0, e1, q1⟩ := k2.ce a p0 _ e0 hm1
    refine ⟨p0, rfl, .inl ⟨xs0, .inl e1⟩, hk G2 al2 σ H2 k2 (r.up l2) _ fun v3 G3 al3 H3 k3 l3 r3 => ?_⟩
    cases r3
    obtain ⟨p1, e2, e3⟩ := r2.up l3
    cases e3
    obtain ⟨xs, e4, q4⟩ := k3.ce a _ _ e2 hm1
    obtain ⟨v, h1, h2⟩ := (kw_val q4).1 hv
    have l : Le G al H G3 al3 H3 := l2.trans k2 k.kn l3
    have k4 : Ok K G3 al3 (M1.set a (.dic (dropW kvs (.inl i)))) (upd H3 p0 (.dK (dropK xs (.inl i)))) := k3.set e2 hm1 (fun z => nomatch z) ⟨_, upd_same, kw_drop q4⟩
    have l4 := l.trans k3 k.kn (Le.set (o := .dK (dropK xs (.inl i))) k3 (List.mem_of_getElem? e2))
    exact ⟨xs, .inl i, v, e4, rfl, h1, p σ G3 al3 _ k4 l4 (r.up l4)⟩
end
end Vx

set_option Elab.async false
set_option linter.all false
set_option maxRecDepth 100000
set_option maxHeartbeats 4000000
/-! Vx4: loops, comprehensions, defs -/
namespace Vx
open PySem L2

/-- behind a turn that ended in o1: go on, or the loop ends in o -/
def Cont (o1 : Out) (next : List Sl → List Cell → Prop) (o : Out) : Prop :=
  match o1 with
  | .nx s M => next s M
  | .ct s M => next s M
  | .bk s M => o = .nx s M
  | .rt w M => o = .rt w M
  | .rz c M => o = .rz c M
section
variable (K : PySem.W.Frag) (E : XK)
/-- a for over these values -/
def ForL (g : TG) (tb : TS) : List W → List Sl → List Cell → Out → Prop
  | [], s, M, o => ∃ s', Sub s s' ∧ o = .nx s' M
  | w :: ws, s, M, o => ∃ o1, BigG K E g tb w s M o1 ∧ Cont o1 (fun s1 M1 => ForL g tb ws s1 M1 o) o
/-- a while of at most n looks -/
def WhL (c : TT) (tb : TS) : Nat → List Sl → List Cell → Out → Prop
  | 0, _, _, _ => False
  | n + 1, s, M, o => (∃ M1, EvB K c s M false M1 ∧ ∃ s', Sub s s' ∧ o = .nx s' M1) ∨ ∃ M1 o1, EvB K c s M true M1 ∧ Big K E tb s M1 o1 ∧ Cont o1 (fun s2 M2 => WhL c tb n s2 M2 o) o
/-- a def's body, to its end -/
def BigF (t : TS) (s : List Sl) (M : List Cell) (r : Res) : Prop := ∀ G al σ H Q, Ok K G al M H → SR K G al s σ → EndR K G al H Q E r → t { nx := fun _ H' => Q .non H', rt := Q } σ H
end
def args (n : Nat) (ws : List W) : List Sl := ws.map some ++ List.replicate (n - ws.length) none

section
variable {K : PySem.W.Frag} {E : XK} {G H G1 H1 : Hp} {al al1 : List Addr} {M M0 M1 M2 M3 N0 : List Cell} {s s1 s2 s3 : List Sl} {σ : St} {te ta tb tl to ti : TE} {tt tc : TT} {t u v bd : TS} {g : TG} {w w1 w2 w3 : W} {ws : List W} {ds : List PyData} {d : PyData} {i j : Int} {b c : Bool} {o o1 : Out} {D : Ends}

theorem BigG.name {n : Nat} (h : Big K E bd (s.set n (some w)) M o) : BigG K E (gName n) bd w s M o := fun G al σ H D v k r q p => h G al (σ.set n (some v)) H D k (sr_set r q) p
theorem BigG.tup3 {a b c : Nat} {x y z : PyData} (h : Big K E bd (((s.set a (some (.dat x))).set b (some (.dat y))).set c (some (.dat z))) M o) : BigG K E (gTup K 3 (gCons (gName a) (gCons (gName b) (gCons (gName c) gNil)))) bd (dt [x, y, z]) s M o := fun G al σ H D v k r q p => by
  cases q with
  | tup e q =>
    cases q with
    | cons h1 q => cases q with
      | cons h2 q => cases q with
        | cons h3 q =>
          cases q
          exact ⟨_, _, rfl, .of (k.ex _ _ e), rfl, _, _, rfl, _, _, rfl, _, _, rfl, rfl, h G al _ H D k (sr_set (sr_set (sr_set r (w := .dat x) h1) (w := .dat y) h2) (w := .dat z) h3) p⟩
theorem BigG.tup2 {a b : Nat} {x y : PyData} (h : Big K E bd ((s.set a (some (.dat x))).set b (some (.dat y))) M o) : BigG K E (gTup K 2 (gCons (gName a) (gCons (gName b) gNil))) bd (dt [x, y]) s M o := fun G al σ H D v k r q p => by
  cases q with
  | tup e q =>
    cases q with
    | cons h1 q => cases q with
      | cons h2 q =>
        cases q
        exact ⟨_, _, rfl, .of (k.ex _ _ e), rfl, _, _, rfl, _, _, rfl, rfl, h G al _ H D k (sr_set (sr_set r (w := .dat x) h1) (w := .dat y) h2) p⟩

theorem for_core {J : It} {ws : List W} (k : Ok K G al M H) (k1 : Ok K G1 al1 M1 H1) (l1 : Le G al H G1 al1 H1) (r : SR K G1 al1 s σ) (hs : ∀ G' al' M' H', Ok K G' al' M' H' → Le G1 al1 H1 G' al' H' → J.stop ws.length H')
    (hg : ∀ i G' al' M' H', i < ws.length → Ok K G' al' M' H' → Le G1 al1 H1 G' al' H' → J.go i H')
    (hy : ∀ i x w G' al' M' H' H2, ws[i]? = some w → Ok K G' al' M' H' → Le G1 al1 H1 G' al' H' → J.yld i H' x H2 → ∃ G2, Ok K G2 al' M' H2 ∧ Le G' al' H' G2 al' H2 ∧ WR K G2 al' w x)
    (hf : ForL K E g bd ws s M1 o) (p : Post K E D G al H o) :
    ∃ W : Nat → Nat → St → Hp → Prop, (∃ m, W 0 m σ H1) ∧ ∀ i m σ H, W i m σ H →
      (J.stop i H ∧ D.nx σ H) ∨ (J.go i H ∧ ∃ N : St → Hp → Prop, (∀ σ' H', N σ' H' → ∃ m', m' < m ∧ W (i + 1) m' σ' H') ∧ ∀ x H', J.yld i H x H' → g x σ H' fun σ2 H2 => bd { D with nx := N, ct := N, bk := D.nx } σ2 H2) := by
  refine ⟨fun i m σ' H' => m = ws.length - i ∧ i ≤ ws.length ∧ ∃ s' M' G' al', Ok K G' al' M' H' ∧ Le G1 al1 H1 G' al' H' ∧ SR K G' al' s' σ' ∧ ForL K E g bd (ws.drop i) s' M' o, ⟨ws.length, by simp, Nat.zero_le _, s, M1, G1, al1, k1, .refl, r, hf⟩, ?_⟩
  rintro i m σ' H' ⟨rfl, hi, s', M', G', al', k', l', r', f'⟩
  by_cases hlt : i < ws.length
  · obtain ⟨w, hw⟩ : ∃ w, ws[i]? = some w := ⟨_, List.getElem?_eq_getElem hlt⟩
    have ed : ws.drop i = w :: ws.drop (i + 1) := by
      rw [List.drop_eq_getElem_cons hlt]
      congr 1
      rw [List.getElem?_eq_getElem hlt] at hw
      exact Option.some.inj hw
    rw [ed] at f'
    obtain ⟨o1, hb, hc⟩ := f'
    refine .inr ⟨hg i G' al' M' H' hlt k' l', fun σ2 H2 => (ws.length - (i + 1) = ws.length - (i + 1) ∧ i + 1 ≤ ws.length ∧ ∃ s' M' G' al', Ok K G' al' M' H2 ∧ Le G1 al1 H1 G' al' H2 ∧ SR K G' al' s' σ2 ∧ ForL K E g bd (ws.drop (i + 1)) s' M' o), fun σ2 H2 h => ⟨ws.length - (i + 1), by omega, h⟩, fun x H2 y => ?_⟩
    obtain ⟨G2, k2, l2, w2⟩ := hy i x w G' al' M' H' H2 hw k' l' y
    have l12 := l'.trans k' k1.kn l2
    refine hb G2 al' σ' H2 _ x k2 (r'.up l2) w2 ?_
    cases o1 with
    | nx s2 M2 => exact fun σ3 G3 al3 H3 k3 l3 r3 => ⟨rfl, hlt, s2, M2, G3, al3, k3, l12.trans k2 k1.kn l3, r3, hc⟩
    | ct s2 M2 => exact fun σ3 G3 al3 H3 k3 l3 r3 => ⟨rfl, hlt, s2, M2, G3, al3, k3, l12.trans k2 k1.kn l3, r3, hc⟩
    | bk s2 M2 =>
      have e : o = .nx s2 M2 := hc
      subst e
      exact Nxt.up p k k2 (l1.trans k1 k.kn l12)
    | rt w' M2 =>
      have e : o = .rt w' M2 := hc
      subst e
      exact Then.up p k k2 (l1.trans k1 k.kn l12)
    | rz c M2 =>
      have e : o = .rz c M2 := hc
      subst e
      exact fun G3 al3 H3 k3 l3 => p G3 al3 H3 k3 ((l1.trans k1 k.kn l12).trans k2 k.kn l3)
  · have e : i = ws.length := by omega
    subst e
    rw [List.drop_length] at f'
    obtain ⟨s2, hs2, e2⟩ := f'
    subst e2
    exact .inl ⟨hs G' al' M' H' k' l', p σ' G' al' H' k' (l1.trans k1 k.kn l') (r'.weak hs2)⟩
theorem Big.forL (he : Ev K tl s M (dl ds) M1) (hf : ForL K E g bd (ds.map .dat) s M1 o) : Big K E (tFor (iList K tl) g bd) s M o := fun G al σ H D k r p =>
  he G al σ H k r _ fun v G1 al1 H1 k1 l1 r1 => by
    cases r1 with
    | @lst a xs _ e q =>
      have sq : ∀ G' al' M' H', Ok K G' al' M' H' → Le G1 al1 H1 G' al' H' → SqL K H' a xs := fun G' al' M' H' k' l' => .of (k'.ex _ _ (l'.g _ _ e))
      have hl : xs.length = ds.length := dqa_len q
      refine ⟨a, rfl, ⟨xs, .of (k1.ex _ _ e)⟩, for_core k k1 l1 (r.up l1) (fun G' al' M' H' k' l' => ⟨xs, sq _ _ _ _ k' l', by rw [List.length_map]; omega⟩)
        (fun i G' al' M' H' hi k' l' => ⟨xs, xs[i]'(by rw [List.length_map] at hi; omega), sq _ _ _ _ k' l', List.getElem?_eq_getElem _⟩)
        (fun i x w G' al' M' H' H2 hw k' l' y => ?_) hf p⟩
      obtain ⟨e2, y⟩ := y
      subst e2
      have hx := y xs (sq _ _ _ _ k' l')
      obtain ⟨d, hd, hq⟩ := dqa_get' q hx
      rw [List.getElem?_map, hd] at hw
      cases hw
      exact ⟨G', k', .refl, dq_mono l'.g hq⟩
def natW (n : Nat) : W := di (n : Int)
theorem Big.forR {ta : TA} {n : Int} (he : EvA K ta s M [di n] M1) (hn : n ≤ 100000000) (h0 : -1000 ≤ n) (hf : ForL K E g bd ((List.range n.toNat).map natW) s M1 o) : Big K E (tFor (iRng1 ta) g bd) s M o := fun G al σ H D k r p =>
  he G al σ H k r _ fun vs G1 al1 H1 k1 l1 r1 => by
    obtain ⟨x, rfl, rx⟩ := paired1 r1
    cases rx
    refine ⟨n, rfl, by omega, by omega, for_core k k1 l1 (r.up l1) (fun _ _ _ _ _ _ => by rw [List.length_map, List.length_range]; exact Nat.le_refl _) (fun i _ _ _ _ hi _ _ => by rw [List.length_map, List.length_range] at hi; exact hi) (fun i x w G' al' M' H' H2 hw k' l' y => ?_) hf p⟩
    obtain ⟨e2, y⟩ := y
    subst e2 y
    obtain ⟨hl, he⟩ := List.getElem?_eq_some_iff.mp hw
    rw [List.getElem_map, List.getElem_range] at he
    subst he
    rw [Int.zero_add]
    exact ⟨G', k', .refl, Dq.int _⟩
theorem Big.whl {n : Nat} (hf : WhL K E tc bd n s M o) : Big K E (tWhile tc bd) s M o := fun G al σ H D k r p => by
  refine ⟨fun m σ' H' => ∃ s' M' G' al', Ok K G' al' M' H' ∧ Le G al H G' al' H' ∧ SR K G' al' s' σ' ∧ WhL K E tc bd m s' M' o, ⟨n, s, M, G, al, k, .refl, r, hf⟩, ?_⟩
  rintro m σ' H' ⟨s', M', G', al', k', l', r', f'⟩
  cases m with
  | zero => exact f'.elim
  | succ m =>
    rcases f' with ⟨M1, hb, s2, hs2, e⟩ | ⟨M1, o1, hb, ho, hc⟩
    · subst e
      exact hb G' al' σ' H' k' r' _ fun G2 al2 H2 k2 l2 => p σ' G2 al2 H2 k2 (l'.trans k' k.kn l2) ((r'.up l2).weak hs2)
    · refine hb G' al' σ' H' k' r' _ fun G2 al2 H2 k2 l2 => ?_
      have l12 := l'.trans k' k.kn l2
      refine ⟨fun σ3 H3 => ∃ s' M' G' al', Ok K G' al' M' H3 ∧ Le G al H G' al' H3 ∧ SR K G' al' s' σ3 ∧ WhL K E tc bd m s' M' o, fun σ3 H3 h => ⟨m, Nat.lt_succ_self m, h⟩, ?_⟩
      refine ho G2 al2 σ' H2 _ k2 (r'.up l2) ?_
      cases o1 with
      | nx s2 M2 => exact fun σ3 G3 al3 H3 k3 l3 r3 => ⟨s2, M2, G3, al3, k3, l12.trans k2 k.kn l3, r3, hc⟩
      | ct s2 M2 => exact fun σ3 G3 al3 H3 k3 l3 r3 => ⟨s2, M2, G3, al3, k3, l12.trans k2 k.kn l3, r3, hc⟩
      | bk s2 M2 =>
        have e : o = .nx s2 M2 := hc
        subst e
        exact Nxt.up p k k2 l12
      | rt w' M2 =>
        have e : o = .rt w' M2 := hc
        subst e
        exact Then.up p k k2 l12
      | rz c M2 =>
        have e : o = .rz c M2 := hc
        subst e
        exact fun G3 al3 H3 k3 l3 => p G3 al3 H3 k3 (l12.trans k2 k.kn l3)

/-! ### comprehensions -/
theorem Ok.out (k : Ok K G al M H) {p : Addr} {ob : HO} (hp : p ∉ al) (hg : G p = none) : Ok K G al M (upd H p ob) where
  ex := same_upd k.ex hg
  len := k.len
  nd := k.nd
  kn := fun a h => by rw [upd_ne (fun z : a = p => hp (z ▸ h))]; exact k.kn a h
  gn := k.gn
  ce := fun j a c e1 e2 => (k.ce j a c e1 e2).up (Same.refl _) ⟨[], by simp⟩ (upd_ne (ne_of_mem hp e1))
theorem Le.out {G' H' : Hp} {al' : List Addr} (l : Le G al H G' al' H') {p : Addr} {ob : HO} (hp : H p = none) : Le G al H G' al' (upd H' p ob) :=
  ⟨l.g, l.la, fun a u e h => by rw [upd_ne (ne_of_none e hp)]; exact l.fr a u e h, l.cap⟩
theorem Ok.adopt (k : Ok K G al M H) {p : Addr} {ob : HO} (hp : p ∉ al) (hg : G p = none) (hh : H p = some ob) : Ok K (upd G p ob) al M H where
  ex := fun a u e => by
    by_cases q : a = p
    · rw [q, upd_same] at e
      cases e
      rw [q]
      exact hh
    · rw [upd_ne q] at e
      exact k.ex a u e
  len := k.len
  nd := k.nd
  kn := k.kn
  gn := fun j a c e1 e2 hd => by rw [upd_ne (ne_of_mem hp e1)]; exact k.gn j a c e1 e2 hd
  ce := fun j a c e1 e2 => (k.ce j a c e1 e2).up (same_new hg) ⟨[], by simp⟩ rfl
theorem al_same {G' H' : Hp} {al' : List Addr} (k : Ok K G al M H) (k' : Ok K G' al' M H') (l : Le G al H G' al' H') : al' = al := by
  obtain ⟨β, e, _⟩ := l.la
  have h1 := k.len
  have h2 := k'.len
  rw [e, List.length_append] at h2
  have h3 : β.length = 0 := by omega
  rw [e, List.length_eq_zero_iff.mp h3, List.append_nil]
theorem take_snoc {α : Type} {l : List α} {i : Nat} {x : α} (h : l[i]? = some x) : l.take (i + 1) = l.take i ++ [x] := by
  rw [List.take_add_one, h] <;> rfl
/-- what stands while a comprehension is made at Dl -/
def LcInv (K : PySem.W.Frag) (G : Hp) (al : List Addr) (M : List Cell) (H : Hp) (Dl : Addr) (ds : List PyData) (H' : Hp) : Prop :=
  ∃ G' acc, Ok K G' al M H' ∧ Le G al H G' al H' ∧ H' Dl = some (.lst acc) ∧ G' Dl = none ∧ DqA G' acc ds
theorem lc_coreV {α : Type} {J : It} {xs : List α} {enc : α → W} {p : α → Bool} {f : α → PyData} {n : Nat} {Q : VK} (k : Ok K G al M H) (r : SR K G al s σ) (hsz : xs.length ≤ 1000000)
    (hs : ∀ G' H', Ok K G' al M H' → Le G al H G' al H' → J.stop xs.length H')
    (hg : ∀ i G' H', i < xs.length → Ok K G' al M H' → Le G al H G' al H' → J.go i H')
    (hy : ∀ i x a G' H' H2, xs[i]? = some a → Ok K G' al M H' → Le G al H G' al H' → J.yld i H' x H2 → H2 = H' ∧ WR K G' al (enc a) x)
    (ht : ∀ a ∈ xs, EvB K tt (s.set n (some (enc a))) M (p a) M) (he : ∀ a ∈ xs, p a = true → Ev K te (s.set n (some (enc a))) M (.dat (f a)) M)
    (q : ∀ Dl G' acc H', H Dl = none → Ok K G' al M H' → Le G al H G' al H' → H' Dl = some (.lst acc) → G' Dl = none → DqA G' acc ((xs.filter p).map f) → Q (.ref Dl) H') :
    ∀ Dl, H Dl = none → ∃ W : Nat → Nat → Hp → Prop, (∃ m, W 0 m (upd H Dl (.lst []))) ∧ ∀ i m H, W i m H →
      (J.stop i H ∧ Q (.ref Dl) H) ∨ (J.go i H ∧ ∃ Nx : Hp → Prop, (∀ H', Nx H' → ∃ m', m' < m ∧ W (i + 1) m' H') ∧ ∀ x H', J.yld i H x H' → gName n x (wipe σ [n]) H' fun σ2 H2 => wipe σ2 [n] = wipe σ [n] ∧ tt σ2 H2 fun b H3 =>
        if b = true then te σ2 H3 fun y H4 => ∃ acc, H4 Dl = some (.lst acc) ∧ acc.length < sizeLine ∧ Nx (upd H4 Dl (.lst (acc ++ [y]))) else Nx H3) := by
  intro Dl hD
  have hDal := k.nin hD
  refine ⟨fun i m H' => m = xs.length - i ∧ i ≤ xs.length ∧ LcInv K G al M H Dl (((xs.take i).filter p).map f) H', ⟨xs.length, by simp, Nat.zero_le _, G, [], k.out hDal (k.gnone hD), Le.refl.out hD, upd_same, k.gnone hD, .nil⟩, ?_⟩
  rintro i m H1 ⟨rfl, hi, G1, acc, k1, l1, e1, n1, q1⟩
  by_cases hlt : i < xs.length
  · obtain ⟨a, ha⟩ : ∃ a, xs[i]? = some a := ⟨_, List.getElem?_eq_getElem hlt⟩
    have hm : a ∈ xs := List.mem_of_getElem? ha
    refine .inr ⟨hg i G1 H1 hlt k1 l1, fun H' => (xs.length - (i + 1) = xs.length - (i + 1) ∧ i + 1 ≤ xs.length ∧ LcInv K G al M H Dl (((xs.take (i + 1)).filter p).map f) H'), fun H' h => ⟨xs.length - (i + 1), by omega, h⟩, fun x H' y => ?_⟩
    obtain ⟨e2, hw⟩ := hy i x a G1 H1 H' ha k1 l1 y
    subst e2
    have sr2 : SR K G1 al (s.set n (some (enc a))) ((σ.set n none).set n (some x)) := sr_wipe (r.up l1) hw
    refine ⟨by show ((((σ.set n none).set n (some x)).set n none) = σ.set n none); rw [List.set_set, List.set_set], ?_⟩
    refine ht a hm G1 al _ H' k1 sr2 _ fun G2 al2 H2 k2 l2 => ?_
    have ea2 : al2 = al := al_same k1 k2 l2
    subst ea2
    have e2 : H2 Dl = some (.lst acc) := l2.fr _ _ e1 hDal
    have n2 : G2 Dl = none := (l2.cap Dl (by rw [e1]; simp) hDal).trans n1
    have l12 := l1.trans k1 k.kn l2
    by_cases hp : p a = true
    · rw [if_pos hp]
      refine he a hm hp G2 al2 _ H2 k2 (sr2.up l2) _ fun y G3 al3 H3 k3 l3 r3 => ?_
      have ea3 : al3 = al2 := al_same k2 k3 l3
      subst ea3
      have e3 : H3 Dl = some (.lst acc) := l3.fr _ _ e2 hDal
      have n3 : G3 Dl = none := (l3.cap Dl (by rw [e2]; simp) hDal).trans n2
      have l13 := l12.trans k2 k.kn l3
      have q3 := dqa_mono l3.g (dqa_mono l2.g q1)
      have hlen : acc.length ≤ xs.length := by
        rw [dqa_len q1, List.length_map]
        exact Nat.le_trans (List.length_filter_le _ _) (by rw [List.length_take]; omega)
      refine ⟨acc, e3, Nat.lt_of_le_of_lt (Nat.le_trans hlen hsz) (by decide), rfl, hlt, G3, acc ++ [y], k3.out hDal n3, l13.out hD, upd_same, n3, ?_⟩
      rw [take_snoc ha, List.filter_append, List.map_append, List.filter_cons_of_pos hp]
      exact dqa_app q3 (.cons r3 .nil)
    · have hp' : p a = false := by simpa using hp
      rw [if_neg hp]
      refine ⟨rfl, hlt, G2, acc, k2, l12, e2, n2, ?_⟩
      rw [take_snoc ha, List.filter_append, List.map_append, List.filter_cons_of_neg hp]
      simpa using dqa_mono l2.g q1
  · have e : i = xs.length := by omega
    subst e
    rw [List.take_length] at q1
    exact .inl ⟨hs G1 H1 k1 l1, q Dl G1 acc H1 hD k1 l1 e1 n1 q1⟩
theorem lc_dat {Q : VK} {Dl : Addr} {G' H' : Hp} {acc : List V} (q : Then K M (dl ds) G al H Q) (k : Ok K G al M H) (hD : H Dl = none) (k' : Ok K G' al M H') (l : Le G al H G' al H') (e : H' Dl = some (.lst acc)) (n : G' Dl = none) (h : DqA G' acc ds) : Q (.ref Dl) H' :=
  q _ (upd G' Dl (.lst acc)) al H' (k'.adopt (k.nin hD) n e) ⟨fun a u z => same_new n a u (l.g a u z), l.la, l.fr, fun a z hz => by rw [upd_ne fun y : a = Dl => z (y ▸ hD)]; exact l.cap a z hz⟩ (Dq.lst upd_same (dqa_mono (same_new n) h))
theorem lc_cel {Q : VK} {Dl : Addr} {G' H' : Hp} {acc : List V} (q : Then K (M ++ [.lst (ds.map .dat)]) (.cel M.length) G al H Q) (k : Ok K G al M H) (hD : H Dl = none) (k' : Ok K G' al M H') (l : Le G al H G' al H') (e : H' Dl = some (.lst acc)) (n : G' Dl = none) (h : DqA G' acc ds) : Q (.ref Dl) H' := by
  have hDal := k.nin hD
  refine q _ G' (al ++ [Dl]) H' ?_ ⟨l.g, ⟨[Dl], rfl, fun a ha => by rw [List.mem_singleton.mp ha]; exact hD⟩, l.fr, l.cap⟩ ⟨Dl, by rw [← k.len, List.getElem?_append_right (Nat.le_refl _), Nat.sub_self] <;> rfl, rfl⟩
  refine ⟨k'.ex, by rw [List.length_append, List.length_append, k.len] <;> rfl, nodup_snoc k.nd hDal, fun a ha => ?_, fun j a c e1 e2 hd => ?_, fun j a c e1 e2 => ?_⟩
  · rcases List.mem_append.mp ha with z | z
    · exact k'.kn a z
    · rw [List.mem_singleton.mp z, e]
      simp
  · rcases get_snoc e1 with ⟨_, q1⟩ | ⟨q1, q2⟩
    · rcases get_snoc e2 with ⟨_, r1⟩ | ⟨r1, _⟩
      · exact k'.gn j a c q1 r1 hd
      · have := (List.getElem?_eq_some_iff.mp q1).1
        rw [k.len] at this
        omega
    · rw [q2]
      exact n
  · rcases get_snoc e1 with ⟨_, q1⟩ | ⟨q1, q2⟩
    · rcases get_snoc e2 with ⟨_, r1⟩ | ⟨r1, _⟩
      · exact (k'.ce j a c q1 r1).up (Same.refl _) ⟨_, rfl⟩ rfl
      · have := (List.getElem?_eq_some_iff.mp q1).1
        rw [k.len] at this
        omega
    · rcases get_snoc e2 with ⟨r1, _⟩ | ⟨_, r2⟩
      · rw [k.len] at q1
        omega
      · rw [q2, r2]
        exact ⟨acc, e, dqa_wr h⟩
section
variable {α : Type} {xs : List α} {enc : α → W} {p : α → Bool} {f : α → PyData} {n : Nat}
theorem lc_list0 {Q : VK} (he : Ev K tl s M w M) (hw : LstOf M w (xs.map enc)) (hz : xs.length ≤ 1000000) (ht : ∀ a ∈ xs, EvB K tt (s.set n (some (enc a))) M (p a) M) (hf : ∀ a ∈ xs, p a = true → Ev K te (s.set n (some (enc a))) M (.dat (f a)) M)
    (k : Ok K G al M H) (r : SR K G al s σ) (q : ∀ G1 al1 H1, Ok K G1 al1 M H1 → Le G al H G1 al1 H1 → ∀ Dl G' acc H', H1 Dl = none → Ok K G' al1 M H' → Le G1 al1 H1 G' al1 H' → H' Dl = some (.lst acc) → G' Dl = none → DqA G' acc ((xs.filter p).map f) → Q (.ref Dl) H') :
    tLc (iList K tl) (gName n) tt te [n] σ H Q := he G al σ H k r _ fun v G1 al1 H1 k1 l1 r1 => by
  obtain ⟨a, ys, rfl, h1, h2⟩ := hw.sq k1 r1
  have al2 : ∀ G' H', Ok K G' al1 M H' → Le G1 al1 H1 G' al1 H' → ∃ ys', SqL K H' a ys' ∧ Paired (WR K G' al1) (xs.map enc) ys' := fun G' H' k' l' => by
    obtain ⟨a', ys', e', h1', h2'⟩ := hw.sq k' (r1.up l')
    cases e'
    exact ⟨ys', h1', h2'⟩
  refine ⟨a, rfl, ⟨ys, h1⟩, lc_coreV k1 (r.up l1) hz (fun G' H' k' l' => ?_) (fun i G' H' hi k' l' => ?_) (fun i x a' G' H' H2 ha k' l' y => ?_) ht hf (q G1 al1 H1 k1 l1)⟩
  · obtain ⟨ys', h1', h2'⟩ := al2 G' H' k' l'
    exact ⟨ys', h1', by rw [← paired_len h2', List.length_map]; exact Nat.le_refl _⟩
  · obtain ⟨ys', h1', h2'⟩ := al2 G' H' k' l'
    exact ⟨ys', ys'[i]'(by rw [← paired_len h2', List.length_map]; exact hi), h1', List.getElem?_eq_getElem _⟩
  · obtain ⟨ys', h1', h2'⟩ := al2 G' H' k' l'
    obtain ⟨e2, y⟩ := y
    have hx := y ys' h1'
    obtain ⟨x', e3, r3⟩ := paired_get h2' (i := i) (x := enc a') (by rw [List.getElem?_map, ha] <;> rfl)
    rw [hx] at e3
    cases e3
    exact ⟨e2, r3⟩
theorem Ev.lcL (he : Ev K tl s M w M) (hw : LstOf M w (xs.map enc)) (hz : xs.length ≤ 1000000) (ht : ∀ a ∈ xs, EvB K tt (s.set n (some (enc a))) M (p a) M) (hf : ∀ a ∈ xs, p a = true → Ev K te (s.set n (some (enc a))) M (.dat (f a)) M) :
    Ev K (tLc (iList K tl) (gName n) tt te [n]) s M (dl ((xs.filter p).map f)) M := fun G al σ H k r Q q => lc_list0 he hw hz ht hf k r fun G1 al1 H1 k1 l1 Dl G' acc H' a1 a2 a3 a4 a5 a6 => lc_dat (q.up k k1 l1) k1 a1 a2 a3 a4 a5 a6
theorem Ev.lcLC (he : Ev K tl s M w M) (hw : LstOf M w (xs.map enc)) (hz : xs.length ≤ 1000000) (ht : ∀ a ∈ xs, EvB K tt (s.set n (some (enc a))) M (p a) M) (hf : ∀ a ∈ xs, p a = true → Ev K te (s.set n (some (enc a))) M (.dat (f a)) M) :
    Ev K (tLc (iList K tl) (gName n) tt te [n]) s M (.cel M.length) (M ++ [.lst (((xs.filter p).map f).map .dat)]) := fun G al σ H k r Q q => lc_list0 he hw hz ht hf k r fun G1 al1 H1 k1 l1 Dl G' acc H' a1 a2 a3 a4 a5 a6 => lc_cel (q.up k k1 l1) k1 a1 a2 a3 a4 a5 a6
end
section
variable {p : Nat → Bool} {f : Nat → PyData} {n : Nat} {m : Int} {tr : TA}
theorem lc_range0 {Q : VK} (he : EvA K tr s M [di m] M) (hz : -1000 ≤ m ∧ m ≤ 1000000) (ht : ∀ a : Nat, a < m.toNat → EvB K tt (s.set n (some (natW a))) M (p a) M) (hf : ∀ a : Nat, a < m.toNat → p a = true → Ev K te (s.set n (some (natW a))) M (.dat (f a)) M)
    (k : Ok K G al M H) (r : SR K G al s σ) (q : ∀ G1 al1 H1, Ok K G1 al1 M H1 → Le G al H G1 al1 H1 → ∀ Dl G' acc H', H1 Dl = none → Ok K G' al1 M H' → Le G1 al1 H1 G' al1 H' → H' Dl = some (.lst acc) → G' Dl = none → DqA G' acc (((List.range m.toNat).filter p).map f) → Q (.ref Dl) H') :
    tLc (iRng1 tr) (gName n) tt te [n] σ H Q := he G al σ H k r _ fun vs G1 al1 H1 k1 l1 r1 => by
  obtain ⟨x, rfl, rx⟩ := paired1 r1
  cases rx
  refine ⟨m, rfl, by omega, by omega, lc_coreV (xs := List.range m.toNat) (enc := natW) k1 (r.up l1) (by rw [List.length_range]; omega) (fun G' H' k' l' => ?_) (fun i G' H' hi k' l' => ?_) (fun i x a' G' H' H2 ha k' l' y => ?_)
    (fun a ha => ht a (List.mem_range.mp ha)) (fun a ha => hf a (List.mem_range.mp ha)) (q G1 al1 H1 k1 l1)⟩
  · rw [List.length_range]
    exact Nat.le_refl _
  · rw [List.length_range] at hi
    exact hi
  · obtain ⟨e2, y⟩ := y
    subst y
    obtain ⟨hl, he⟩ := List.getElem?_eq_some_iff.mp ha
    rw [List.getElem_range] at he
    subst he
    rw [Int.zero_add]
    exact ⟨e2, Dq.int _⟩
theorem Ev.lcR (he : EvA K tr s M [di m] M) (hz : -1000 ≤ m ∧ m ≤ 1000000) (ht : ∀ a : Nat, a < m.toNat → EvB K tt (s.set n (some (natW a))) M (p a) M) (hf : ∀ a : Nat, a < m.toNat → p a = true → Ev K te (s.set n (some (natW a))) M (.dat (f a)) M) :
    Ev K (tLc (iRng1 tr) (gName n) tt te [n]) s M (dl (((List.range m.toNat).filter p).map f)) M := fun G al σ H k r Q q => lc_range0 he hz ht hf k r fun G1 al1 H1 k1 l1 Dl G' acc H' a1 a2 a3 a4 a5 a6 => lc_dat (q.up k k1 l1) k1 a1 a2 a3 a4 a5 a6
theorem Ev.lcRC (he : EvA K tr s M [di m] M) (hz : -1000 ≤ m ∧ m ≤ 1000000) (ht : ∀ a : Nat, a < m.toNat → EvB K tt (s.set n (some (natW a))) M (p a) M) (hf : ∀ a : Nat, a < m.toNat → p a = true → Ev K te (s.set n (some (natW a))) M (.dat (f a)) M) :
    Ev K (tLc (iRng1 tr) (gName n) tt te [n]) s M (.cel M.length) (M ++ [.lst ((((List.range m.toNat).filter p).map f).map .dat)]) := fun G al σ H k r Q q => lc_range0 he hz ht hf k r fun G1 al1 H1 k1 l1 Dl G' acc H' a1 a2 a3 a4 a5 a6 => lc_cel (q.up k k1 l1) k1 a1 a2 a3 a4 a5 a6
end

/-! ### defs -/
theorem closed_of (k : Ok K G al M H) {j : Nat} {a : Addr} {c : Cell} (e1 : al[j]? = some a) (e2 : M[j]? = some c) {G' H' : Hp} {β : List Addr} (h : CR K G' (al ++ β) H' a c) : CR K G' al H' a c := by
  have up : ∀ w x x', WR K G al w x → WR K G' (al ++ β) w x' → WR K G' al w x' := fun w x x' h1 h2 => by
    cases w with
    | dat d => exact h2
    | scr ns => exact h2
    | raw a => exact h2
    | cel n =>
      obtain ⟨b, q1, rfl⟩ := h1
      obtain ⟨b', q2, rfl⟩ := h2
      rw [List.getElem?_append_left (List.getElem?_eq_some_iff.mp q1).1] at q2
      exact ⟨b', q2, rfl⟩
  have c0 := k.ce j a c e1 e2
  cases c with
  | dead => exact True.intro
  | lst ws =>
    obtain ⟨xs0, z0, p0⟩ := c0
    clear z0
    obtain ⟨xs, h1, p1⟩ := h
    refine ⟨xs, h1, ?_⟩
    clear h1 e2
    induction ws generalizing xs0 xs with
    | nil => cases p1; exact .nil
    | cons w ws ih =>
      cases p0 with
      | cons a0 b0 => cases p1 with
        | cons a1 b1 => exact .cons (up _ _ _ a0 a1) (ih _ b0 _ b1)
  | dic kvs =>
    obtain ⟨xs0, z0, p0⟩ := c0
    clear z0
    obtain ⟨xs, h1, p1⟩ := h
    refine ⟨xs, h1, ?_⟩
    clear h1 e2
    induction kvs generalizing xs0 xs with
    | nil => cases p1; exact .nil
    | cons w ws ih =>
      cases p0 with
      | cons a0 b0 => cases p1 with
        | cons a1 b1 => exact .cons ⟨a1.1, up _ _ _ a0.2 a1.2⟩ (ih _ b0 _ b1)
  | ins C fs =>
    obtain ⟨dx0, xs0, z0, p0⟩ := c0
    clear z0
    obtain ⟨dx, xs, h1, p1⟩ := h
    refine ⟨dx, xs, h1, ?_⟩
    clear h1 e2
    induction fs generalizing xs0 xs with
    | nil => cases p1; exact .nil
    | cons w ws ih =>
      cases p0 with
      | cons a0 b0 => cases p1 with
        | cons a1 b1 => exact .cons ⟨a1.1, up _ _ _ a0.2 a1.2⟩ (ih _ b0 _ b1)
  | tab P q => exact h
/-- cells made on the way are forgotten -/
theorem Ok.drop {G' H' : Hp} {al' : List Addr} (k : Ok K G al M H) (k' : Ok K G' al' (M ++ N0) H') (l : Le G al H G' al' H') : Ok K G' al M H' ∧ Le G al H G' al H' := by
  obtain ⟨β, rfl, hβ⟩ := l.la
  have hm : ∀ {j : Nat} {a : Addr}, al[j]? = some a → (al ++ β)[j]? = some a := fun {j a} e => by rw [List.getElem?_append_left (List.getElem?_eq_some_iff.mp e).1]; exact e
  have hM : ∀ {j : Nat} {c : Cell}, M[j]? = some c → (M ++ N0)[j]? = some c := fun {j a} e => by rw [List.getElem?_append_left (List.getElem?_eq_some_iff.mp e).1]; exact e
  exact ⟨⟨k'.ex, k.len, k.nd, fun a ha => k'.kn a (List.mem_append_left _ ha), fun j a c e1 e2 hd => k'.gn j a c (hm e1) (hM e2) hd, fun j a c e1 e2 => closed_of k e1 e2 (k'.ce j a c (hm e1) (hM e2))⟩,
    l.g, ⟨[], by simp, by simp⟩, l.fr, l.cap⟩
theorem BigF.rt (h : Big K E t s M (.rt w M1)) : BigF K E t s M (.ret w M1) := fun G al σ H Q k r q => h G al σ H _ k r q
theorem BigF.dat (h : Big K E t s M (.rt (.dat d) (M ++ N0))) : BigF K E t s M (.ret (.dat d) M) := fun G al σ H Q k r q => h G al σ H _ k r fun v G' al' H' k' l' r' =>
  have z := k.drop k' l'
  q v G' al H' z.1 z.2 r'
theorem BigF.none (h : Big K E t s M (.nx s1 (M ++ N0))) : BigF K E t s M (.ret dn M) := fun G al σ H Q k r q => h G al σ H _ k r fun σ' G' al' H' k' l' r' =>
  have z := k.drop k' l'
  q .non G' al H' z.1 z.2 Dq.non
theorem BigF.raise {c : Value} (h : Big K E t s M (.rz c (M ++ N0))) : BigF K E t s M (.rz c M) := fun G al σ H Q k r q => h G al σ H _ k r fun G' al' H' k' l' =>
  have z := k.drop k' l'
  q G' al H' z.1 z.2
theorem start_sr {us : List V} {N : List Str} (r : Paired (WR K G al) ws us) : SR K G al (args N.length ws) (L2.start N us) := by
  unfold args L2.start
  rw [← paired_len r]
  refine paired_app ?_ ?_
  · induction r with
    | nil => exact .nil
    | cons h _ ih => exact .cons (fun w e => ⟨_, rfl, by cases e; exact h⟩) ih
  · generalize N.length - ws.length = m
    induction m with
    | zero => exact .nil
    | succ m ih => exact .cons (fun w e => by cases e) ih
variable {P : Program} {wd : World} {mg : Str → Option Value} {base : Heap} {T : List Cell → List W → Res → Prop}
/-- a def that lets nothing out -/
theorem fn_ok {x qual : Str} {st : Stmt} {f : Addr} {fd : FuncData} {N ps : List Str} {k : Nat} (F : Fun K x qual st f fd) (S : FnScope N ps (defScope st)) (len : ∀ M ws o, T M ws o → ws.length = ps.length)
    (hb : ∀ (cdv : Value) (A : Around) (outer : List Env) (s : Shared) (H : Hp) (E : XK), Room k (A.deeper (PyProof.Rows.envOfC qual (defScope st) s.heap.objs.size f cdv)) →
      ∃ t, PSs (cxOf CX0 P wd K mg base N qual (defScope st) f cdv A outer s H E).nox (defBody st) t ∧ ∀ M ws o, T M ws o → BigF K E t (args N.length ws) M o) : FnOk P wd K mg base CX0 (k + 1) f fd ps (spOf K T) := by
  refine F.ok S (fun vs H Q E h => ?_) (fun cdv A outer s H vs Q E hr h => ?_)
  · obtain ⟨M, ws, o, hT, G, al, _, r, _⟩ := h
    rw [← paired_len r]
    exact len M ws o hT
  · obtain ⟨t, h1, h2⟩ := hb cdv A outer s H E hr
    obtain ⟨M, ws, o, hT, G, al, k, r, q⟩ := h
    exact ⟨t, h1, h2 M ws o hT G al _ H Q k (start_sr r) q⟩
/-- a def that may raise -/
theorem fn_okX {x qual : Str} {st : Stmt} {f : Addr} {fd : FuncData} {N ps : List Str} {k : Nat} (F : Fun K x qual st f fd) (S : FnScope N ps (defScope st)) (len : ∀ M ws o, T M ws o → ws.length = ps.length)
    (hb : ∀ (cdv : Value) (A : Around) (outer : List Env) (s : Shared) (H : Hp) (E : XK), Room k (A.deeper (PyProof.Rows.envOfC qual (defScope st) s.heap.objs.size f cdv)) →
      ∃ t, PSs (cxOf (L2N.CX P wd) P wd K mg base N qual (defScope st) f cdv A outer s H E) (defBody st) t ∧ ∀ M ws o, T M ws o → BigF K E t (args N.length ws) M o) : FnOk P wd K mg base (L2N.CX P wd) (k + 1) f fd ps (spOf K T) := by
  obtain ⟨oc, od, kV, doc, pm, an, cdv, ct, osl, rfl, lk, hcd⟩ := F.ex
  refine fn_of lk hcd S (fun vs H Q E h => ?_) (fun A outer s H vs Q E hr h => ?_)
  · obtain ⟨M, ws, o, hT, G, al, _, r, _⟩ := h
    rw [← paired_len r]
    exact len M ws o hT
  · obtain ⟨t, h1, h2⟩ := hb cdv A outer s H E hr
    obtain ⟨M, ws, o, hT, G, al, k, r, q⟩ := h
    exact ⟨t, h1, h2 M ws o hT G al _ H Q k (start_sr r) q⟩
/-- a call from where nothing is let out -/
theorem passN {X : Cx} : Passes (L2N.CX X.prog X.w) X E0 := fun _ _ _ _ _ _ _ h => by
  obtain ⟨_, _, _, _, _, _, _, _, _, _, _, _, z⟩ := h
  exact z.elim
theorem Ev.call {ta : TA} {E' : XK} (h : EvA K ta s M ws M1) (hT : T M1 ws (.ret w M2)) : Ev K (tCall (spOf K T) [] E' ta) s M w M2 := fun G al σ H k r Q q =>
  h G al σ H k r _ fun vs G1 al1 H1 k1 l1 r1 => by
    rw [List.append_nil]
    exact ⟨M1, ws, _, hT, G1, al1, k1, r1, q.up k k1 l1⟩
theorem LstOf.app {L : List Cell} (h : LstOf M w ws) : LstOf (M ++ L) w ws := by
  cases h with
  | dat ds => exact .dat ds
  | cel h => exact .cel (by rw [List.getElem?_append_left (List.getElem?_eq_some_iff.mp h).1]; exact h)
  | scr ns => exact .scr ns
theorem getL {L : List Cell} {n : Nat} {c : Cell} (h : L[n]? = some c) : (M ++ L)[M.length + n]? = some c := by
  rw [List.getElem?_append_right (by omega), Nat.add_sub_cancel_left]
  exact h
theorem setL {L : List Cell} {n : Nat} {c : Cell} : (M ++ L).set (M.length + n) c = M ++ L.set n c := by
  rw [List.set_append_right _ _ (by omega), Nat.add_sub_cancel_left]
end
end Vx

set_option Elab.async false
set_option linter.all false
set_option maxRecDepth 100000
set_option maxHeartbeats 4000000
/-! Vx5: short words for operations, items; what stands at the top -/
namespace Vx
open PySem L2

abbrev xAdd : R2 := rI0 fun i j => .int (i + j)
abbrev xSub : R2 := rI0 fun i j => .int (i - j)
abbrev xMul : R2 := rI CMul fun i j => .int (i * j)
abbrev xMod : R2 := rI (fun _ j => 0 < j) fun i j => .int (i % j)
abbrev xDiv : R2 := rI CDiv fun i j => .int (i / j)
abbrev xPow : R2 := rI CPow fun i j => .int (i ^ j.toNat)
abbrev xLt : R2 := rI0 fun i j => .bl (decide (i < j))
abbrev xLe : R2 := rI0 fun i j => .bl (decide (i ≤ j))
abbrev xGt : R2 := rI0 fun i j => .bl (decide (j < i))
abbrev xGe : R2 := rI0 fun i j => .bl (decide (j ≤ i))
abbrev xNeg : V → Hp → VK → Prop := rU fun i => .int (-i)
/-- raise C(..) in a def that may raise -/
def tRz (E : XK) (C : Addr) : TS := fun _ _ H => E (.ref C) none H
theorem Big.rz {K : PySem.W.Frag} {E : XK} {C : Addr} {s : List Sl} {M : List Cell} : Big K E (tRz E C) s M (.rz (.ref C) M) := fun G al σ H D k r p => p G al H k .refl
theorem b_len : bootBuiltins "len" = some (.builtin "len") := by decide +kernel
theorem b_sum : bootBuiltins "sum" = some (.builtin "sum") := by decide +kernel
theorem b_all : bootBuiltins "all" = some (.builtin "all") := by decide +kernel
theorem b_any : bootBuiltins "any" = some (.builtin "any") := by decide +kernel
theorem b_min : bootBuiltins "min" = some (.builtin "min") := by decide +kernel
theorem b_max : bootBuiltins "max" = some (.builtin "max") := by decide +kernel
theorem b_sorted : bootBuiltins "sorted" = some (.builtin "sorted") := by decide +kernel
theorem b_isinstance : bootBuiltins "isinstance" = some (.builtin "isinstance") := by decide +kernel
theorem b_list : bootBuiltins "list" = some (.type "list") := by decide +kernel
theorem b_tuple : bootBuiltins "tuple" = some (.type "tuple") := by decide +kernel
theorem b_int : bootBuiltins "int" = some (.type "int") := by decide +kernel
theorem b_bool : bootBuiltins "bool" = some (.type "bool") := by decide +kernel

/-- what x[i] is -/
inductive IxOf (M : List Cell) : W → Int → W → Prop
  | lst {w w1 : W} {ws : List W} {i : Int} (h : LstOf M w ws) (e : atI ws i = some w1) : IxOf M w i w1
  | tup {ds : List PyData} {d : PyData} {i : Int} (e : atI ds i = some d) : IxOf M (dt ds) i (.dat d)
theorem atI_nat' {α : Type} {xs : List α} {n : Nat} {i : Int} {x : α} (h : xs[n]? = some x) (e : i = (n : Int)) : atI xs i = some x := by
  subst e
  exact atI_nat h
theorem atI_map {α β : Type} {xs : List α} {f : α → β} {i : Int} {x : α} (h : atI xs i = some x) : atI (xs.map f) i = some (f x) := by
  unfold atI at h ⊢
  rw [List.length_map]
  cases z : ixN xs.length i with
  | none => rw [z] at h; cases h
  | some n =>
    rw [z] at h
    have h : xs[n]? = some x := h
    show (xs.map f)[n]? = some (f x)
    rw [List.getElem?_map, h] <;> rfl
theorem IxOf.dat {M : List Cell} {ds : List PyData} {d : PyData} {i : Int} (e : atI ds i = some d) : IxOf M (dl ds) i (.dat d) := .lst (.dat ds) (atI_map e)
theorem IxOf.map {α : Type} {M : List Cell} {xs : List α} {f : α → PyData} {x : α} {i : Int} (e : atI xs i = some x) : IxOf M (dl (xs.map f)) i (.dat (f x)) := .dat (atI_map e)

section
variable {K : PySem.W.Frag} {E : XK} {G H : Hp} {al : List Addr} {M M1 M2 M3 : List Cell} {s s1 : List Sl} {te ta tb tc : TE} {t u v : TS} {tt : TT} {w w1 w2 w3 : W} {ws : List W} {ds : List PyData} {d : PyData} {i j : Int} {b c : Bool} {o : Out}
theorem Ev.add (ha : Ev K ta s M (di i) M1) (hb : Ev K tb s M1 (di j) M2) : Ev K (tOp xAdd ta tb) s M (di (i + j)) M2 := .i0 ha hb
theorem Ev.sub (ha : Ev K ta s M (di i) M1) (hb : Ev K tb s M1 (di j) M2) : Ev K (tOp xSub ta tb) s M (di (i - j)) M2 := .i0 ha hb
theorem Ev.lt (ha : Ev K ta s M (di i) M1) (hb : Ev K tb s M1 (di j) M2) : Ev K (tOp xLt ta tb) s M (db (decide (i < j))) M2 := .b0 ha hb
theorem Ev.le (ha : Ev K ta s M (di i) M1) (hb : Ev K tb s M1 (di j) M2) : Ev K (tOp xLe ta tb) s M (db (decide (i ≤ j))) M2 := .b0 ha hb
theorem Ev.gt (ha : Ev K ta s M (di i) M1) (hb : Ev K tb s M1 (di j) M2) : Ev K (tOp xGt ta tb) s M (db (decide (j < i))) M2 := .b0 (f := fun i j => decide (j < i)) ha hb
theorem Ev.ge (ha : Ev K ta s M (di i) M1) (hb : Ev K tb s M1 (di j) M2) : Ev K (tOp xGe ta tb) s M (db (decide (j ≤ i))) M2 := .b0 (f := fun i j => decide (j ≤ i)) ha hb
theorem Ev.mul (ha : Ev K ta s M (di i) M1) (hb : Ev K tb s M1 (di j) M2) (hc : CMul i j) : Ev K (tOp xMul ta tb) s M (di (i * j)) M2 := .iC ha hb hc
theorem Ev.mod (ha : Ev K ta s M (di i) M1) (hb : Ev K tb s M1 (di j) M2) (hc : 0 < j) : Ev K (tOp xMod ta tb) s M (di (i % j)) M2 := .iC (C := fun _ j => 0 < j) ha hb hc
theorem Ev.div (ha : Ev K ta s M (di i) M1) (hb : Ev K tb s M1 (di j) M2) (hc : 0 < j ∧ j < 1073741824) : Ev K (tOp xDiv ta tb) s M (di (i / j)) M2 := .iC (C := CDiv) ha hb hc
theorem Ev.pow (ha : Ev K ta s M (di i) M1) (hb : Ev K tb s M1 (di j) M2) (hc : CPow i j) : Ev K (tOp xPow ta tb) s M (di (i ^ j.toNat)) M2 := .iC (C := CPow) ha hb hc
theorem Ev.ixG (ha : Ev K ta s M w M1) (hb : Ev K tb s M1 (di i) M2) (h : IxOf M2 w i w1) : Ev K (tOp (rIx K) ta tb) s M w1 M2 := by
  cases h with
  | lst h e => exact .ix ha hb h e
  | tup e => exact .ixT ha hb e
/-- == of two numbers, texts or truths; two other things that are alike -/
inductive EqOf : W → W → Bool → Prop
  | int (i j : Int) : EqOf (di i) (di j) (decide (i = j))
  | bl (b c : Bool) : EqOf (db b) (db c) (decide (b = c))
  | str (x y : Str) : EqOf (ds_ x) (ds_ y) (decide (x = y))
theorem Ev.eq (ha : Ev K ta s M w1 M1) (hb : Ev K tb s M1 w2 M2) (h : EqOf w1 w2 b) : Ev K (tOp rEq ta tb) s M (db b) M2 := by
  cases h with
  | int i j => exact .eqI ha hb
  | bl b c => exact .eqB ha hb
  | str x y => exact .eqS ha hb
theorem Ev.ne (ha : Ev K ta s M w1 M1) (hb : Ev K tb s M1 w2 M2) (h : EqOf w1 w2 b) : Ev K (tOp rNe ta tb) s M (db (!b)) M2 := by
  cases h with
  | int i j => exact .neI ha hb
  | bl b c => exact .neB ha hb
  | str x y => exact .neS ha hb
theorem Ev.isB (ha : Ev K ta s M (db b) M1) (hb : Ev K tb s M1 (db c) M2) : Ev K (tOp rIsB ta tb) s M (db (decide (b = c))) M2 :=
  .op ha hb fun G al H x y k hx hy Q q => by
    cases hx
    cases hy
    exact ⟨b, c, rfl, rfl, q _ _ _ _ k .refl (Dq.bl _)⟩
theorem Ev.notB (ha : Ev K ta s M (db b) M1) (hb : Ev K tb s M1 (db c) M2) : Ev K (tOp rNotB ta tb) s M (db (!decide (b = c))) M2 :=
  .op ha hb fun G al H x y k hx hy Q q => by
    cases hx
    cases hy
    exact ⟨b, c, rfl, rfl, q _ _ _ _ k .refl (Dq.bl _)⟩
/-- isinstance of data by a built-in class -/
theorem Ev.isT {T : String} (h : Ev K te s M (.dat d) M1) (hk : kitB (tyName d) T = some b) : Ev K (tCB (rIsi K) (tCons te (tCons (tC (.ty T)) tNil))) s M (db b) M1 := .isi h rfl hk
def rIntX : List V → Hp → VK → Prop := fun xs H Q => (∃ i, xs = [.int i] ∧ Q (.int i) H) ∨ ∃ k, xs = [.bl k] ∧ Q (.int (if k then 1 else 0)) H
theorem c_int {X : Cx} : CallR X (.type "int") rIntX := call_int1
theorem Ev.intB (h : Ev K te s M (db b) M1) : Ev K (tCB rIntX (tCons te tNil)) s M (di (if b = true then 1 else 0)) M1 := .cb (ea_cons h ea_nil) fun G al H xs k r Q q => by
  obtain ⟨y, rfl, r1⟩ := paired1 r
  cases r1
  exact .inr ⟨b, rfl, q _ _ _ _ k .refl (Dq.int _)⟩
def rTupX (K : PySem.W.Frag) : List V → Hp → VK → Prop := fun xs H Q => ∃ p ys, xs = [.ref p] ∧ ((SqL K H p ys ∧ ∀ l, H l = none → Q (.ref l) (upd H l (.tup ys))) ∨ (SqT K H p ys ∧ Q (.ref p) H))
theorem c_tuple {X : Cx} : CallR X (.type "tuple") (rTupX X.K) := call_tuple_of
theorem Ev.tupL (h : Ev K te s M (dl ds) M1) : Ev K (tCB (rTupX K) (tCons te tNil)) s M (dt ds) M1 := .cb (ea_cons h ea_nil) fun G al H xs k r Q q => by
  obtain ⟨y, rfl, r1⟩ := paired1 r
  cases r1 with
  | lst e1 q1 => exact ⟨_, _, rfl, .inl ⟨.of (k.ex _ _ e1), alloc_tup k q1 q⟩⟩
theorem Ev.sorted {ns : List Int} (h : Ev K te s M (dl (ns.map .int)) M1) {ms : List Int} (hp : ms.Perm ns) (hs : ms.Pairwise (· ≤ ·)) : Ev K (tCB (rSortedI K) (tCons te tNil)) s M (dl (ms.map .int)) M1 := .cb (ea_cons h ea_nil) fun G al H xs k r Q q => by
  obtain ⟨y, rfl, r1⟩ := paired1 r
  cases r1 with
  | lst e1 q1 =>
    refine ⟨_, ns, rfl, .of (by rw [← dqa_ints q1]; exact k.ex _ _ e1), fun ns' p hp' hs' hn => ?_⟩
    have e : ns' = ms := List.Perm.eq_of_pairwise (fun a b _ _ h1 h2 => Int.le_antisymm h1 h2) hs' hs (hp'.trans hp.symm)
    subst e
    exact alloc_lst k (dqa_of_ints ns') q p hn
theorem Ev.lenSet {ns : List Int} (h : Ev K te s M (dl (ns.map .int)) M1) (hn : ns.Nodup) (hl : ns.length ≤ 4000) : Ev K (RZ.tLenSetI K te) s M (di ns.length) M1 := fun G al σ H k r Q q =>
  h G al σ H k r _ fun v G1 al1 H1 k1 l1 r1 => by
    cases r1 with
    | lst e1 q1 => exact ⟨_, ns, rfl, .of (by rw [← dqa_ints q1]; exact k1.ex _ _ e1), hn, hl, q _ _ _ _ k1 l1 (Dq.int _)⟩
/-! over a table M0 ++ L, where L is the def's own cells -/
section
variable {M0 L : List Cell} {n k : Nat} {to ti td ty tv : TE} {kvs : List (Key × W)}
theorem Big.setItemL (he : Ev K te s (M0 ++ L) w (M0 ++ L)) (ho : Ev K to s (M0 ++ L) (.cel (M0.length + k)) (M0 ++ L)) (hi : Ev K ti s (M0 ++ L) (di i) (M0 ++ L)) (hm : L[k]? = some (.lst ws)) (hx : ixN ws.length i = some n) :
    Big K E (tAsg te (gSub to ti rSetL)) s (M0 ++ L) (.nx s (M0 ++ L.set k (.lst (ws.set n w)))) := by
  rw [← setL]
  exact .setItem he ho hi (getL hm) hx
theorem Big.appendL (ho : Ev K to s (M0 ++ L) (.cel (M0.length + k)) (M0 ++ L)) (ha : Ev K te s (M0 ++ L) w (M0 ++ L)) (hm : L[k]? = some (.lst ws)) (hz : ws.length ≤ 100000) :
    Big K E (tDrop (tBM K "list" rAppend to (tCons te tNil))) s (M0 ++ L) (.nx s (M0 ++ L.set k (.lst (ws ++ [w])))) := by
  rw [← setL]
  exact .append ho ha ⟨_, getL hm⟩ (getL hm) hz
theorem Big.insertL (ho : Ev K to s (M0 ++ L) (.cel (M0.length + k)) (M0 ++ L)) (hi : Ev K ti s (M0 ++ L) (di i) (M0 ++ L)) (ha : Ev K te s (M0 ++ L) w (M0 ++ L)) (hm : L[k]? = some (.lst ws)) (hz : ws.length ≤ 100000) (h0 : 0 ≤ i ∧ i ≤ 100000) :
    Big K E (tDrop (tBM K "list" rInsert to (tCons ti (tCons te tNil)))) s (M0 ++ L) (.nx s (M0 ++ L.set k (.lst (ws.take i.toNat ++ [w] ++ ws.drop i.toNat)))) := by
  rw [← setL]
  exact .insert ho hi ha ⟨_, getL hm⟩ (getL hm) hz h0
theorem Big.clearL (ho : Ev K to s (M0 ++ L) (.cel (M0.length + k)) (M0 ++ L)) (hm : L[k]? = some (.lst ws)) : Big K E (tDrop (tBM0 K "list" rClear to)) s (M0 ++ L) (.nx s (M0 ++ L.set k (.lst []))) := by
  rw [← setL]
  exact .clear ho (getL hm)
theorem Big.dputL (hv : Ev K tv s (M0 ++ L) w (M0 ++ L)) (hd : Ev K td s (M0 ++ L) (.cel (M0.length + k)) (M0 ++ L)) (hk : Ev K ty s (M0 ++ L) (di i) (M0 ++ L)) (hm : L[k]? = some (.dic kvs)) (hz : kvs.length ≤ 100000) :
    Big K E (sDPut td ty tv) s (M0 ++ L) (.nx s (M0 ++ L.set k (.dic (putW kvs (.inl i) w)))) := by
  rw [← setL]
  exact .dput hv hd hk (getL hm) hz
theorem Big.dpopL (hd : Ev K td s (M0 ++ L) (.cel (M0.length + k)) (M0 ++ L)) (hk : Ev K ty s (M0 ++ L) (di i) (M0 ++ L)) (hm : L[k]? = some (.dic kvs)) (hv : valW kvs (.inl i) = some w) :
    Big K E (tDrop (tDPop1 td ty)) s (M0 ++ L) (.nx s (M0 ++ L.set k (.dic (dropW kvs (.inl i))))) := by
  rw [← setL]
  exact .dpop hd (getL hm) hk hv
theorem Ev.frzL (h : Ev K te s (M0 ++ L) (.cel (M0.length + k)) (M0 ++ L)) (hm : L[k]? = some (.lst (ds.map .dat))) : Ev K te s (M0 ++ L) (dl ds) (M0 ++ L.set k .dead) := by
  rw [← setL]
  exact .frz h (getL hm)
/-- a new cell of the def's own -/
theorem Big.newL {n : Nat} {c : Cell} (h : Ev K te s (M0 ++ L) (.cel (M0 ++ L).length) ((M0 ++ L) ++ [c])) : Big K E (tAsg te (gName n)) s (M0 ++ L) (.nx (s.set n (some (.cel (M0.length + L.length)))) (M0 ++ (L ++ [c]))) := by
  have q := Big.asg (E := E) (n := n) h
  rw [List.length_append, List.append_assoc] at q
  exact q
end
/-- x = e, then the rest; the table stays -/
theorem Big.st {n : Nat} (h : Ev K te s M w M) (q : Big K E u (s.set n (some w)) M o) : Big K E (tSeq (tAsg te (gName n)) u) s M o := .seq (.asg h) q
theorem Big.stIf {n : Nat} (hc : EvB K tt s M b M) (h1 : b = true → Ev K te s M w1 M) (h0 : s[n]? = some (some w2)) (e : w = if b = true then w1 else w2) (q : Big K E u (s.set n (some w)) M o) : Big K E (tSeq (tIfS tt (tAsg te (gName n)) tNext) u) s M o := .seq (.ite1 hc h1 h0 e) q
/-- if ..: return e, then the rest -/
theorem Big.retIf (hc : EvB K tt s M b M) (h1 : b = true → Big K E (tRet te) s M o) (h2 : b = false → Big K E u s M o) (hr : ∃ w M', o = .rt w M') : Big K E (tSeq (tIfS tt (tRet te) tNext) u) s M o := by
  obtain ⟨w, M', rfl⟩ := hr
  exact .seqIte hc (fun z => .seqR (h1 z)) fun z => .seqN (h2 z)
/-- a call that raises -/
theorem Big.callZ {ta : TA} {c : Value} {T : List Cell → List W → Res → Prop} (h : EvA K ta s M ws M1) (hT : T M1 ws (.rz c M2)) : Big K E (tDrop (tCall (spOf K T) [] E ta)) s M (.rz c M2) := fun G al σ H D k r p =>
  h G al σ H k r _ fun vs G1 al1 H1 k1 l1 r1 => by
    rw [List.append_nil]
    exact ⟨M1, ws, _, hT, G1, al1, k1, r1, fun G' al' H' k' l' => p G' al' H' k' (l1.trans k1 k.kn l')⟩
theorem Big.retN : Big K E tRetN s M (.rt dn M) := fun G al σ H D k r p => p .non G al H k .refl Dq.non
/-- the rest of a block behind a return -/
theorem Big.seqRet (h : Ev K te s M w M1) : Big K E (tSeq (tRet te) u) s M (.rt w M1) := .seqR (.ret h)
end

/-! ### what stands at the top of the text -/
section
variable {P : Program} {wd : World} {K : PySem.W.Frag} {mg : Str → Option Value} {base : Heap}
/-- a def of the top -/
structure DefAt (K : PySem.W.Frag) (mg : Str → Option Value) (x : Str) (st : Stmt) (ps : List Str) (f : Addr) (fd : FuncData) : Prop where
  F : Fun K x x st f fd
  m : mg x = some (.ref f)
  b : Binds K fd ps []
theorem def_at {h : Heap} (X : K.In h) (Gn : h.Ns mainGlobals mg) {x : Str} {st : Stmt} {ps : List Str} {f : Addr} {oc : Value} {od an : Option Addr} {sl : Array (Option Value)} {kV dc pm cd ct : Value} (a : PySem.W.nsIn K mainGlobals x = some (some (.ref f)))
    (l : K.lookup f = some ⟨oc, od, .func (PySem.W.fnOf x x (defArgs st) (defBody st) (defScope st) .none kV dc pm an cd ct), sl⟩) (c : PySem.W.codeIn K cd x = true) (k : PySem.W.keepIn K (.ref f) = true)
    (hb : ∀ (kV doc pm : Value) (an : Option Addr) (cdv ct : Value) (us : List Value), us.length = ps.length → bindArgs (PySem.W.fnOf x x (defArgs st) (defBody st) (defScope st) .none kV doc pm an cdv ct) ⟨us, []⟩ = pure (ps.zip us)) :
    DefAt K mg x st ps f (PySem.W.fnOf x x (defArgs st) (defBody st) (defScope st) .none kV dc pm an cd ct) :=
  have F := fun_mk (st := st) l c k
  ⟨F, PySem.W.mg_of X Gn a, F.binds hb⟩
/-- a def that may be called -/
structure Cal (P : Program) (wd : World) (K : PySem.W.Frag) (mg : Str → Option Value) (base : Heap) (CX : CXT) (lv : Nat) (x : Str) (ps : List Str) (sp : Sp) : Prop where
  ex : ∃ f fd, FnOk P wd K mg base CX lv f fd ps sp ∧ mg x = some (.ref f) ∧ PySem.W.keepIn K (.ref f) = true ∧ Binds K fd ps []
theorem law_sp {T : List Cell → List W → Res → Prop} (hT : ∀ ns : List Int, ns.length ≤ 63 → T [] [.scr ns] (.ret (db true) [])) (K : PySem.W.Frag) (H : Hp) (a : Addr) (ns : List Int) (hl : ns.length ≤ 63) (hS : SqL K H a (ns.map V.int)) :
    spOf K T [.ref a] H (fun v _ => v = .bl true) fun _ _ _ => False :=
  ⟨[], [.scr ns], _, hT ns hl, H, [], ⟨Same.refl _, rfl, List.nodup_nil, by simp, by simp, by simp⟩, .cons ⟨a, rfl, hS⟩ .nil, fun v G' al' H' _ _ r => by
    cases r
    rfl⟩
end
end Vx

set_option Elab.async false
set_option linter.all false
set_option maxRecDepth 100000
set_option maxHeartbeats 4000000
/-! Vx6: equality of data, lengths -/
namespace Vx
open PySem L2

/-- data of numbers and None alone, n deep at most -/
def pI : Nat → PyData → Bool
  | _, .int _ => true
  | _, .none => true
  | n + 1, .list xs => xs.all (pI n)
  | n + 1, .tuple xs => xs.all (pI n)
  | _, _ => false
theorem pI_lay : ∀ (n : Nat) (d : PyData), pI n d = true → d.canLay0 = true ∧ d.depth ≤ n + 1 := by
  intro n
  induction n with
  | zero =>
    intro d h
    cases d <;> first | (exact ⟨rfl, by simp [PyData.depth]⟩) | (simp [pI] at h)
  | succ n ih =>
    have hl : ∀ xs : List PyData, xs.all (pI n) = true → PyData.canLayAll0 xs = true ∧ PyData.depthAll xs ≤ n + 1 := by
      intro xs
      induction xs with
      | nil => exact fun _ => ⟨rfl, by simp [PyData.depthAll]⟩
      | cons x xs ih2 =>
        intro h
        rw [List.all_cons, Bool.and_eq_true] at h
        obtain ⟨a1, a2⟩ := ih x h.1
        obtain ⟨b1, b2⟩ := ih2 h.2
        refine ⟨by rw [PyData.canLayAll0, a1, b1] <;> rfl, ?_⟩
        rw [PyData.depthAll]
        omega
    intro d h
    cases d with
    | int i => exact ⟨rfl, by simp [PyData.depth]⟩
    | none => exact ⟨rfl, by simp [PyData.depth]⟩
    | list xs =>
      obtain ⟨b1, b2⟩ := hl xs h
      exact ⟨by rw [PyData.canLay0]; exact b1, by rw [PyData.depth]; omega⟩
    | tuple xs =>
      obtain ⟨b1, b2⟩ := hl xs h
      exact ⟨by rw [PyData.canLay0]; exact b1, by rw [PyData.depth]; omega⟩
    | _ => simp [pI] at h
theorem pI_shaped {n : Nat} {d : PyData} (h : pI n d = true) (hn : n ≤ 60) : SeqAt.shaped d = true := by
  obtain ⟨h1, h2⟩ := pI_lay n d h
  unfold SeqAt.shaped
  rw [h1, Bool.true_and]
  exact decide_eq_true (by omega)
theorem pI_eq : ∀ (n : Nat) (d e : PyData), pI n d = true → pI n e = true → (PyData.eqv d e = true ↔ d = e) := by
  intro n
  induction n with
  | zero =>
    intro d e h h'
    cases d <;> cases e <;> simp [pI] at h h' <;> simp [PyData.eqv]
  | succ n ih =>
    have hl : ∀ xs ys : List PyData, xs.all (pI n) = true → ys.all (pI n) = true → (PyData.eqvAll xs ys = true ↔ xs = ys) := by
      intro xs
      induction xs with
      | nil =>
        intro ys _ _
        cases ys <;> simp [PyData.eqvAll]
      | cons x xs ih2 =>
        intro ys h h'
        cases ys with
        | nil => simp [PyData.eqvAll]
        | cons y ys =>
          rw [List.all_cons, Bool.and_eq_true] at h h'
          rw [PyData.eqvAll, Bool.and_eq_true, ih x y h.1 h'.1, ih2 ys h.2 h'.2, List.cons.injEq]
    intro d e h h'
    cases d <;> cases e <;> first | (simp [pI] at h; done) | (simp [pI] at h'; done) | (simp [PyData.eqv]; done) | (rw [PyData.eqv, hl _ _ h h']; simp)
theorem pI_up : ∀ (n : Nat) (d : PyData), pI n d = true → pI (n + 1) d = true := by
  intro n
  induction n with
  | zero =>
    intro d h
    cases d <;> simp [pI] at h ⊢
  | succ n ih =>
    intro d h
    cases d with
    | int i => rfl
    | none => rfl
    | list xs =>
      have h : xs.all (pI n) = true := h
      show xs.all (pI (n + 1)) = true
      rw [List.all_eq_true] at h ⊢
      exact fun x hx => ih x (h x hx)
    | tuple xs =>
      have h : xs.all (pI n) = true := h
      show xs.all (pI (n + 1)) = true
      rw [List.all_eq_true] at h ⊢
      exact fun x hx => ih x (h x hx)
    | _ => simp [pI] at h
theorem pI_map {α : Type} {n : Nat} {f : α → PyData} {xs : List α} (h : ∀ x ∈ xs, pI n (f x) = true) : pI (n + 1) (.list (xs.map f)) = true := by
  show (xs.map f).all (pI n) = true
  rw [List.all_map, List.all_eq_true]
  exact h
theorem pI_ints (ns : List Int) : pI 1 (.list (ns.map .int)) = true := pI_map fun _ _ => rfl
/-- how long a thing is -/
inductive LenOf (M : List Cell) : W → Int → Prop
  | lst {w : W} {ws : List W} (h : LstOf M w ws) : LenOf M w (ws.length : Int)
  | tup (ds : List PyData) : LenOf M (dt ds) (ds.length : Int)
section
variable {K : PySem.W.Frag} {E : XK} {G H : Hp} {al : List Addr} {M M1 M2 M3 : List Cell} {s s1 : List Sl} {te ta tb tc : TE} {w w1 w2 : W} {ds : List PyData} {d e : PyData} {i : Int} {b : Bool} {n : Nat}
theorem Ev.lenG (h : Ev K te s M w M1) (hl : LenOf M1 w i) : Ev K (tCB (rLenX K) (tCons te tNil)) s M (di i) M1 := by
  cases hl with
  | lst h2 => exact .len h h2
  | tup ds => exact .lenT h
theorem LenOf.dl {ds : List PyData} : LenOf M (dl ds) (ds.length : Int) := by
  have h := LenOf.lst (LstOf.dat (M := M) ds)
  rw [List.length_map] at h
  exact h
theorem LenOf.map {α : Type} {f : α → PyData} {xs : List α} : LenOf M (Vx.dl (xs.map f)) (xs.length : Int) := by
  have h := LenOf.dl (M := M) (ds := xs.map f)
  rw [List.length_map] at h
  exact h
theorem filter_yes {α : Type} (xs : List α) : xs.filter (fun _ => true) = xs := by
  rw [List.filter_eq_self]
  exact fun _ _ => rfl
/-! comprehensions without an if -/
section
variable {α : Type} {xs : List α} {enc : α → W} {f : α → PyData} {n : Nat} {tl tr : TE} {trA : TA} {m : Int} {g : Nat → PyData}
theorem Ev.lcL1 (he : Ev K tl s M w M) (hw : LstOf M w (xs.map enc)) (hz : xs.length ≤ 1000000) (hf : ∀ a ∈ xs, Ev K te (s.set n (some (enc a))) M (.dat (f a)) M) : Ev K (tLc (iList K tl) (gName n) tYes te [n]) s M (Vx.dl (xs.map f)) M := by
  have h := Ev.lcL (p := fun _ => true) (f := f) (n := n) he hw hz (fun _ _ => EvB.yes) fun a ha _ => hf a ha
  rw [filter_yes] at h
  exact h
theorem Ev.lcLC1 (he : Ev K tl s M w M) (hw : LstOf M w (xs.map enc)) (hz : xs.length ≤ 1000000) (hf : ∀ a ∈ xs, Ev K te (s.set n (some (enc a))) M (.dat (f a)) M) : Ev K (tLc (iList K tl) (gName n) tYes te [n]) s M (.cel M.length) (M ++ [.lst ((xs.map f).map .dat)]) := by
  have h := Ev.lcLC (p := fun _ => true) (f := f) (n := n) he hw hz (fun _ _ => EvB.yes) fun a ha _ => hf a ha
  rw [filter_yes] at h
  exact h
theorem Ev.lcR1 (he : EvA K trA s M [di m] M) (hz : -1000 ≤ m ∧ m ≤ 1000000) (hf : ∀ a : Nat, a < m.toNat → Ev K te (s.set n (some (natW a))) M (.dat (g a)) M) : Ev K (tLc (iRng1 trA) (gName n) tYes te [n]) s M (Vx.dl ((List.range m.toNat).map g)) M := by
  have h := Ev.lcR (p := fun _ => true) (f := g) (n := n) he hz (fun _ _ => EvB.yes) fun a ha _ => hf a ha
  rw [filter_yes] at h
  exact h
theorem Ev.lcRC1 (he : EvA K trA s M [di m] M) (hz : -1000 ≤ m ∧ m ≤ 1000000) (hf : ∀ a : Nat, a < m.toNat → Ev K te (s.set n (some (natW a))) M (.dat (g a)) M) : Ev K (tLc (iRng1 trA) (gName n) tYes te [n]) s M (.cel M.length) (M ++ [.lst (((List.range m.toNat).map g).map .dat)]) := by
  have h := Ev.lcRC (p := fun _ => true) (f := g) (n := n) he hz (fun _ _ => EvB.yes) fun a ha _ => hf a ha
  rw [filter_yes] at h
  exact h
end
/-- == of data without truths and texts -/
theorem Ev.eqP (n : Nat) (ha : Ev K ta s M w1 M1) (hb : Ev K tb s M1 w2 M2) (h1 : DatOf M2 w1 d) (h2 : DatOf M2 w2 e) (hn : n ≤ 60) (p1 : pI n d = true) (p2 : pI n e = true) (hbe : b = true ↔ d = e) : Ev K (tOp (rEqD K) ta tb) s M (db b) M2 := by
  refine Ev.is (Ev.eqD ha hb h1 h2 (pI_shaped p1 hn) (pI_shaped p2 hn)) ?_
  congr 2
  rw [Bool.eq_iff_iff, pI_eq n d e p1 p2, hbe]
theorem Ev.neP (n : Nat) (ha : Ev K ta s M w1 M1) (hb : Ev K tb s M1 w2 M2) (h1 : DatOf M2 w1 d) (h2 : DatOf M2 w2 e) (hn : n ≤ 60) (p1 : pI n d = true) (p2 : pI n e = true) (hbe : b = true ↔ d = e) : Ev K (tOp (rNeD K) ta tb) s M (db (!b)) M2 := by
  refine Ev.is (Ev.neD ha hb h1 h2 (pI_shaped p1 hn) (pI_shaped p2 hn)) ?_
  congr 3
  rw [Bool.eq_iff_iff, pI_eq n d e p1 p2, hbe]
end
end Vx

set_option Elab.async false
set_option linter.all false
set_option maxRecDepth 100000
set_option maxHeartbeats 4000000
/-! Hp: a def that is called in an except suite with the very error that is handled: its promise may speak of the error's object. -/
namespace HotP
open PySem PySem.Spec PyProof.Rows L2 HotX L2H
/-- the error that is handled, and its object -/
abbrev Pin := Addr × Obj
structure FnP (P : Program) (w : World) (K : PySem.W.Frag) (mg : Str → Option Value) (base : Heap) (k : Nat) (f : Addr) (fd : FuncData) (ps : List Str) (sp : Pin → Sp) : Prop where
  len : ∀ p vs H Q E, sp p vs H Q E → vs.length = ps.length
  run : ∀ (A : Around) (outer : List Env) (s : Shared) (H : Hp) (args : Args) (us : List Value) (vs : List V) (Q : VK) (E : XK) (p : Pin), RoomH k A → Hot1 A p → PinOk outer H s p → Env0 P w K mg base A outer s H → BindsTo s fd args (ps.zip us) → Vals vs us → sp p vs H Q E →
    codeAny (model P w) A (.call (.ref f) args) (CR CX0 outer P w H s Q E) s
theorem fnP_of {P : Program} {w : World} {K : PySem.W.Frag} {mg : Str → Option Value} {base : Heap} {k : Nat} {x qual : Str} {st : Stmt} {f : Addr} {fd : FuncData} {N ps : List Str} {sp : Pin → Sp} (F : Fun K x qual st f fd) (S : FnScope N ps (defScope st))
    (len : ∀ p vs H Q E, sp p vs H Q E → vs.length = ps.length)
    (hb : ∀ (cdv : Value) (A : Around) (outer : List Env) (s : Shared) (H : Hp) (vs : List V) (Q : VK) (E : XK) (p : Pin), Hot1 A p → RoomH k (A.deeper (envOfC qual (defScope st) s.heap.objs.size f cdv)) → sp p vs H Q E →
      ∃ t, PSs (cxH CX0 P w K mg base N qual (defScope st) f cdv A outer s H E p) (defBody st) t ∧ t { nx := fun _ H' => Q .non H', rt := Q } (L2.start N vs) H) :
    FnP P w K mg base (k + 1) f fd ps sp := by
  obtain ⟨oc, od, kV, doc, pm, an, cdv, ct, osl, rfl, lk, hcd⟩ := F.ex
  refine ⟨len, fun A outer s H args us vs Q E p room hot pin e0 bd r h => ?_⟩
  have inBase : ∀ b o, base.get? b = some o → s.heap.get? b = some o := fun b o e => (e0.bs b o e).1
  have kin : K.In s.heap := e0.mod.kin.keeps inBase
  have names : ∀ y ∈ ps.zip us, (defScope st).names.lookup y.1 = some .local ∨ ((defScope st).names.lookup y.1 = some .cell ∧ ((cellsFrom (s.heap.objs.size + 1) (defScope st).names []).lookup y.1).isSome = true) := by
    rintro ⟨n, v⟩ hy
    exact (S.par n (List.of_mem_zip hy).1).imp id fun q => ⟨q, PySem.W.cellsFrom_some _ _ _ (.inl q)⟩
  refine codeAny_call_function room.depth (kin _ _ lk) rfl S.co S.gen rfl (PySem.W.codeRec_of kin hcd) (bd _ _ _ _ (wpAny_newFunctionEnv_cells S.kind names ?_))
  rintro env rfl s1 x
  obtain ⟨t, ht, hq⟩ := hb cdv A outer s H vs Q E p hot (room.deeper _) h
  refine ⟨(e0.mod.nolimit.keeps inBase).keeps x.toInCall.keep, codeAny_func (wpAny_mono (ht.run [] s1 (L2.start N vs) H _ (inv_startH S pin e0 (len _ _ _ _ _ h) r x) hq) (fun fl s' hs => ?_) fun _ _ z => z)⟩
  match fl, hs with
  | .ret u, ⟨v, σ', H', J, rv, q⟩ => exact ⟨v, H', J.os, J.bare, J.base, J.hok, rv, q⟩
  | .next, ⟨σ', H', J, q⟩ => exact ⟨V.non, H', J.os, J.bare, J.base, J.hok, rfl, q⟩
  | .brk, ⟨_, _, _, q⟩ => exact q.elim
  | .cont, ⟨_, _, _, q⟩ => exact q.elim
section
variable {X : Cx} {k : Nat} {f : Addr} {fd : FuncData} {ps : List Str} {sp : Pin → Sp} {x : Str} {q pos : Pos} {e : Expr} {es : List Expr} {t : TA} {p : Pin}
/-- f(..) in the suite -/
theorem pe_callP {sp' : Sp} (F : FnP X.prog X.w X.K X.mg X.base k f fd ps sp) (hs : ∀ vs H Q E, sp' vs H Q E → sp p vs H Q E) (hr : RoomH k X.A) (hot : Hot1 X.A p) (hp : p ∈ X.pn) (hg : Gl X x) (hm : X.mg x = some (.ref f)) (hk : PySem.W.keepIn X.K (.ref f) = true) (hb : Binds X.K fd ps [])
    (ha : PA X (e :: es) t) (hdb : (x == ("__debug__" : Str)) = false := by decide) (he : starEach (e :: es) X.env = (false, eval e X.env) :: starEach es X.env := by rfl) (hpl : (backTo pos (starEach es X.env)).any (·.1) = false := by rfl) :
    PE X (.Call (.Name x q) (e :: es) [] pos) (tCall sp' [] E0 t) := by
  refine ⟨fun pins s σ H Q I h => wpAny_Call_Name_kw (ld_glob I hg hm ?_ hdb)⟩
  refine PySem.W.callWith_K (h₀ := X.base) I.ok.mod.kin hk (thn (ha.run pos pins s σ H _ I h) ?_) he hpl
  rintro us s1 ⟨vs, H1, I1, r, q⟩
  refine ⟨I1.kIn, ?_⟩
  rw [List.append_nil] at q
  have q := hs _ _ _ _ q
  have b := hb s1 us I1.kIn (by rw [List.append_nil, ← r.length]; exact F.len _ _ _ _ _ q)
  rw [List.append_nil] at b
  obtain ⟨p1, p2, p3, p4, p5⟩ := I1.pin p (List.mem_append_left _ hp)
  have pin : PinOk X.stack H1 s1 p := ⟨p1, p2, fun hm => (List.mem_cons.mp (I1.stkSub p.1 hm)).elim p3 p4, p5⟩
  refine wpAny_call (codeAny_mono (F.run X.A X.stack s1 H1 ⟨us, []⟩ us vs Q E0 p hr hot pin I1.env0 b r q) ?_)
  intro res s' hq
  match res, hq with
  | .error _, hq => exact hq.elim
  | .ok (.ret u), hq => exact I1.after hq
  | .ok .next, hq => exact hq.elim
  | .ok .brk, hq => exact hq.elim
  | .ok .cont, hq => exact hq.elim
/-- isinstance(e, c), e the error whose object is p's -/
def rIsP (K : PySem.W.Frag) (p : Pin) : List V → Hp → VK → Prop := fun xs H Q => ∃ (D : Addr) (c : V) (cv : Value) (b : Bool), ExcC K D ∧ Zc (.ref D) none p.2 ∧ (∃ vs, p.2.data = .fields vs) ∧ xs = [.ref p.1, c] ∧ (∀ u, RelV c u → u = cv) ∧ PySem.W.kitOne K (.ref D) cv = some b ∧ Q (.bl b) H
theorem call_isP (hp : p ∈ X.pn) : CallR X (.builtin "isinstance") (rIsP X.K p) := by
  rintro pins s σ H xs us Q I r ⟨D, c, cv, b, C, hz, ⟨vs, hv⟩, rfl, hcv, e, q⟩
  cases r with
  | cons rx rr =>
    cases rr with
    | cons rt rr =>
      cases rr
      cases rx
      have ec := hcv _ rt
      subst ec
      have hget := (I.pin p (List.mem_append_left _ hp)).1
      obtain ⟨a, oc, od, oda, osl⟩ := p
      obtain ⟨h1, h2⟩ := hz
      dsimp only at h1 h2 hv hget
      subst h1 h2 hv
      have J : PySem.W.InstAt s.heap a ⟨.ref D, none, .fields vs, osl⟩ D none := ⟨hget, rfl, rfl, trivial⟩
      exact PySem.W.kia_one (PySem.W.handS_kitx_exc C.hg C.hk C.hs C.hd C.ha C.hn C.ht C.hm) I.kIn J e (fun z => nomatch z) fun tk => ⟨.bl b, H, I.kept (t' := tk) fun _ _ z => z, rfl, q⟩
end
end HotP

set_option Elab.async false
set_option linter.all false
set_option maxRecDepth 100000
set_option maxHeartbeats 4000000
/-! Vx7: try .. except C as e; a def that is handed the error -/
namespace Vx
open PySem L2 HotP
/-- the promise of a def that is handed the error that is handled: e its object's place, D its class -/
def spP (K : PySem.W.Frag) (T : Addr → Addr → List Cell → List W → Res → Prop) : Pin → Sp := fun p us H Q E => ∃ D, Zc (.ref D) none p.2 ∧ (∃ vs, p.2.data = .fields vs) ∧ spOf K (T p.1 D) us H Q E
def spS (K : PySem.W.Frag) (T : Addr → Addr → List Cell → List W → Res → Prop) (a : Addr) (cls : Value) (d : Option Addr) : Sp := fun us H Q E => ∃ D, cls = .ref D ∧ d = none ∧ spOf K (T a D) us H Q E
section
variable {P : Program} {wd : World} {K : PySem.W.Frag} {mg : Str → Option Value} {base : Heap}
structure CalP (P : Program) (wd : World) (K : PySem.W.Frag) (mg : Str → Option Value) (base : Heap) (lv : Nat) (x : Str) (ps : List Str) (sp : Pin → Sp) : Prop where
  ex : ∃ f fd, FnP P wd K mg base lv f fd ps sp ∧ mg x = some (.ref f) ∧ PySem.W.keepIn K (.ref f) = true ∧ Binds K fd ps []
theorem pe_callQ {X : Cx} {k : Nat} {f : Addr} {fd : FuncData} {ps : List Str} {T : Addr → Addr → List Cell → List W → Res → Prop} {x : Str} {q pos : Pos} {e : Expr} {es : List Expr} {t : TA} {a : Addr} {oe : Obj} {cls : Value} {d : Option Addr} {pn : List (Addr × Obj)}
    (F : FnP X.prog X.w X.K X.mg X.base k f fd ps (spP X.K T)) (hr : L2H.RoomH k X.A) (hz : L2N.Zn cls d oe) (hv : ∃ vs, oe.data = .fields vs) (hg : Gl X x) (hm : X.mg x = some (.ref f)) (hk : PySem.W.keepIn X.K (.ref f) = true) (hb : Binds X.K fd ps [])
    (ha : PA (X.suite a ((a, oe) :: pn)) (e :: es) t) (hdb : (x == ("__debug__" : Str)) = false := by decide) (he : starEach (e :: es) X.env = (false, eval e X.env) :: starEach es X.env := by rfl) (hpl : (backTo pos (starEach es X.env)).any (·.1) = false := by rfl) :
    PE (X.suite a ((a, oe) :: pn)) (.Call (.Name x q) (e :: es) [] pos) (tCall (spS X.K T a cls d) [] E0 t) := by
  have hot : L2H.Hot1 (X.suite a ((a, oe) :: pn)).A (a, oe) := by
    obtain ⟨vs, hv⟩ := hv
    exact ⟨rfl, vs, hv, hz.2.2 vs hv⟩
  refine pe_callP (X := X.suite a ((a, oe) :: pn)) (q := q) (pos := pos) F ?_ ⟨hr.dp, hr.un⟩ hot List.mem_cons_self hg hm hk hb ha hdb he hpl
  rintro vs H1 Q E ⟨D, rfl, rfl, q⟩
  exact ⟨D, hz.zc, hv, q⟩
/-- a def that is handed the error -/
theorem fn_okP {x qual : Str} {st : Stmt} {f : Addr} {fd : FuncData} {N ps : List Str} {k : Nat} {T : Addr → Addr → List Cell → List W → Res → Prop} (F : Fun K x qual st f fd) (S : FnScope N ps (defScope st)) (len : ∀ e D M ws o, T e D M ws o → ws.length = ps.length)
    (hb : ∀ (cdv : Value) (A : Around) (outer : List Env) (s : Shared) (H : Hp) (E : XK) (p : Pin), L2H.RoomH k (A.deeper (PyProof.Rows.envOfC qual (defScope st) s.heap.objs.size f cdv)) →
      ∃ t, PSs (L2H.cxH CX0 P wd K mg base N qual (defScope st) f cdv A outer s H E p) (defBody st) t ∧ ∀ D M ws o, Zc (.ref D) none p.2 → (∃ vs, p.2.data = .fields vs) → T p.1 D M ws o → BigF K E t (args N.length ws) M o) : FnP P wd K mg base (k + 1) f fd ps (spP K T) := by
  refine fnP_of F S (fun p vs H Q E h => ?_) (fun cdv A outer s H vs Q E p _ hr h => ?_)
  · obtain ⟨D, _, _, M, ws, o, hT, G, al, _, r, _⟩ := h
    rw [← paired_len r]
    exact len _ _ M ws o hT
  · obtain ⟨t, h1, h2⟩ := hb cdv A outer s H E p hr
    obtain ⟨D, hz, hv, M, ws, o, hT, G, al, k, r, q⟩ := h
    exact ⟨t, h1, h2 D M ws o hz hv hT G al _ H Q k (start_sr r) q⟩
end
section
variable {K : PySem.W.Frag} {E : XK} {G H : Hp} {al : List Addr} {M M1 M2 M3 : List Cell} {s s1 : List Sl} {σ : St} {te : TE} {ta : TA} {w : W} {ws : List W} {o o1 : Out} {i : Nat} {c : Addr} {T : List Cell → List W → Res → Prop} {ts : Addr → Value → Option Addr → TS}
/-- isinstance(e, C) -/
theorem _root_.Vx.Ev.isP {D : Addr} {p : Pin} {v : V} {cv : Value} {b : Bool} (h : Ev K te s M (.raw p.1) M1) (hC : ExcC K D) (hz : Zc (.ref D) none p.2) (hv : ∃ vs, p.2.data = .fields vs) (hc : ∀ u, RelV v u → u = cv) (hk : PySem.W.kitOne K (.ref D) cv = some b) :
    Ev K (tCB (rIsP K p) (tCons te (tCons (tC v) tNil))) s M (db b) M1 := fun G al σ H k sr Q q =>
  h G al σ H k sr _ fun x G1 al1 H1 k1 l1 r1 => by
    cases r1
    exact ⟨D, v, cv, b, hC, hz, hv, rfl, hc, hk, q _ _ _ _ k1 l1 (Dq.bl _)⟩
/-- isinstance of a dict -/
theorem _root_.Vx.Ev.isiD {T : String} {a : Nat} {kvs : List (Key × W)} {b : Bool} (h : Ev K te s M (.cel a) M1) (hm : M1[a]? = some (.dic kvs)) (hk : kitB "dict" T = some b) : Ev K (tCB (rIsi K) (tCons te (tCons (tC (.ty T)) tNil))) s M (db b) M1 := fun G al σ H k sr Q q =>
  h G al σ H k sr _ fun v G1 al1 H1 k1 l1 r1 => by
    obtain ⟨p0, e0, rfl⟩ := r1
    obtain ⟨xs, e1, _⟩ := k1.ce a p0 _ e0 hm
    exact ⟨_, .ty T, .type "dict", .type T, b, rfl, .ty T, .base (.dK e1), kit_ty hk, q _ _ _ _ k1 l1 (Dq.bl _)⟩
/-- try: .. except C as (slot i): the suite; nothing else leaves -/
def tTry (K : PySem.W.Frag) (c : Addr) (i : Nat) (ts : Addr → Value → Option Addr → TS) (tb : WX → TS) : TS := fun D σ H => tb (wAs K (.ref c) i ts (fun _ _ _ _ => False) D) D σ H
def outU (i : Nat) : Out → Out
  | .nx s M => .nx (s.set i none) M
  | .bk s M => .bk (s.set i none) M
  | .ct s M => .ct (s.set i none) M
  | .rt w M => .rt w M
  | .rz c M => .rz c M
theorem sr_none {i : Nat} (r : SR K G al s σ) : SR K G al (s.set i none) (σ.set i none) := paired_set (fun _ e => nomatch e) i r
abbrev sD (i : Nat) (D : Ends) : Ends := { nx := fun σ' H' => D.nx (σ'.set i none) H', rt := D.rt, bk := fun σ' H' => D.bk (σ'.set i none) H', ct := fun σ' H' => D.ct (σ'.set i none) H' }
theorem post_u {D : Ends} (h : Post K E D G al H (outU i o)) : Post K E (sD i D) G al H o := by
  cases o with
  | nx s2 M2 => exact fun σ' G' al' H' k l r => h (σ'.set i none) G' al' H' k l (sr_none r)
  | bk s2 M2 => exact fun σ' G' al' H' k l r => h (σ'.set i none) G' al' H' k l (sr_none r)
  | ct s2 M2 => exact fun σ' G' al' H' k l r => h (σ'.set i none) G' al' H' k l (sr_none r)
  | rt w M2 => exact h
  | rz c M2 => exact h
theorem try_er {σ : St} {D : Ends} {cls : Value} (k : Ok K G al M H) (r : SR K G al s σ) (hx : PySem.W.exmOne K cls (.ref c) = some true) (hs : ∀ a, Big K E (ts a cls none) (s.set i (some (.raw a))) M2 o) (p : Post K E D G al H (outU i o)) :
    ∀ G' al' H', Ok K G' al' M2 H' → Le G al H G' al' H' → wAs K (.ref c) i ts (fun _ _ _ _ => False) D cls none σ H' := fun G' al' H' k' l' =>
  ⟨true, hx, fun _ a _ => hs a G' al' (σ.set i (some (.ref a))) H' (sD i D) k' (sr_set (r.up l') (w := .raw a) rfl) (post_u (Post.up p k k' l')), fun z => nomatch z⟩
theorem Big.tryD_ok (h : EvA K ta s M ws M1) (hT : T M1 ws (.ret w M2)) : Big K E (tTry K c i ts fun W => tDrop (tCallS (spOf K T) (WE W) ta)) s M (.nx s M2) := fun G al σ H D k r p =>
  h G al σ H k r _ fun vs G1 al1 H1 k1 l1 r1 => ⟨M1, ws, _, hT, G1, al1, k1, r1, fun v G2 al2 H2 k2 l2 r2 => p σ G2 al2 H2 k2 (l1.trans k1 k.kn l2) (r.up (l1.trans k1 k.kn l2))⟩
theorem Big.tryD_er {cls : Value} (h : EvA K ta s M ws M1) (hT : T M1 ws (.rz cls M2)) (hx : PySem.W.exmOne K cls (.ref c) = some true) (hs : ∀ a, Big K E (ts a cls none) (s.set i (some (.raw a))) M2 o) : Big K E (tTry K c i ts fun W => tDrop (tCallS (spOf K T) (WE W) ta)) s M (outU i o) := fun G al σ H D k r p =>
  h G al σ H k r _ fun vs G1 al1 H1 k1 l1 r1 => ⟨M1, ws, _, hT, G1, al1, k1, r1, try_er k1 (r.up l1) hx hs (Post.up p k k1 l1)⟩
theorem Big.tryR_ok (h : EvA K ta s M ws M1) (hT : T M1 ws (.ret w M2)) : Big K E (tTry K c i ts fun W => tRet (tCallS (spOf K T) (WE W) ta)) s M (.rt w M2) := fun G al σ H D k r p =>
  h G al σ H k r _ fun vs G1 al1 H1 k1 l1 r1 => ⟨M1, ws, _, hT, G1, al1, k1, r1, Then.up p k k1 l1⟩
theorem Big.tryR_er {cls : Value} (h : EvA K ta s M ws M1) (hT : T M1 ws (.rz cls M2)) (hx : PySem.W.exmOne K cls (.ref c) = some true) (hs : ∀ a, Big K E (ts a cls none) (s.set i (some (.raw a))) M2 o) : Big K E (tTry K c i ts fun W => tRet (tCallS (spOf K T) (WE W) ta)) s M (outU i o) := fun G al σ H D k r p =>
  h G al σ H k r _ fun vs G1 al1 H1 k1 l1 r1 => ⟨M1, ws, _, hT, G1, al1, k1, r1, try_er k1 (r.up l1) hx hs (Post.up p k k1 l1)⟩
/-- the call of a def that is handed the error -/
theorem Ev.callS {TS : Addr → Addr → List Cell → List W → Res → Prop} {a D : Addr} (h : EvA K ta s M ws M1) (hT : TS a D M1 ws (.ret w M2)) : Ev K (tCall (spS K TS a (.ref D) none) [] E0 ta) s M w M2 := fun G al σ H k r Q q =>
  h G al σ H k r _ fun vs G1 al1 H1 k1 l1 r1 => by
    rw [List.append_nil]
    exact ⟨D, rfl, rfl, M1, ws, _, hT, G1, al1, k1, r1, q.up k k1 l1⟩
end
theorem b_ValueError : bootBuiltins "ValueError" = some (.type "ValueError") := by decide +kernel
/-- nothing is let out -/
theorem takesN0 {X : Cx} : L2N.Takes X (fun _ _ _ _ => False) := fun _ _ x => by
  obtain ⟨_, _, _, _, _, _, _, _, _, _, _, _, _, _, _, _, z⟩ := x
  exact z.elim
end Vx

set_option Elab.async false
set_option linter.all false
set_option maxRecDepth 100000
set_option maxHeartbeats 4000000
namespace Bk
open PySem L2 Vx

local macro_rules | `(tactic| walk_at "ev") => `(tactic| repeat' first
  | exact Ev.var rfl | exact Ev.int | exact Ev.bl | exact Ev.str | exact Ev.non | exact ea_nil
  | apply Ev.add | apply Ev.sub | apply Ev.lt | apply Ev.le | apply Ev.gt | apply Ev.ge
  | apply Ev.mul | apply Ev.mod | apply Ev.div | apply Ev.pow
  | apply Ev.ixG | apply Ev.eq | apply Ev.ne | apply Ev.lenG | apply ed_cons
  | apply ea_cons | apply Ev.tup | apply EvB.val | apply EvB.test | apply EvB.not
  | apply Ev.isT | apply Ev.not | exact Nat.le_of_ble_eq_true rfl | exact EqOf.int _ _ | exact EqOf.bl _ _ | exact EqOf.str _ _
  | exact IxOf.tup rfl | exact LenOf.map | exact LenOf.dl | exact LenOf.tup _ | exact LstOf.dat _ | exact LstOf.scr _ | exact LstOf.cel rfl | exact LstOf.cel (getL rfl))

/-- where the classes of refusals stand -/
structure Xs where
  DebtError : Addr
  BadCount : Addr
  BadDebt : Addr
  BadCut : Addr
  Uneven : Addr
  BadPrices : Addr
  NotBest : Addr
  NoDebt : Addr
  NoHouse : Addr
  BadAmount : Addr
  Day : Addr := 0
def isInt : PyData → Bool
  | .int _ => true
  | _ => false
def isIB : PyData → Bool
  | .int _ => true
  | .bool _ => true
  | _ => false
def isB : PyData → Bool
  | .bool _ => true
  | _ => false
theorem kit_int : ∀ d : PyData, kitB (tyName d) "int" = some (isIB d)
  | .none => (by decide +kernel : kitB "NoneType" "int" = some false)
  | .bool _ => (by decide +kernel : kitB "bool" "int" = some true)
  | .int _ => (by decide +kernel : kitB "int" "int" = some true)
  | .str _ => (by decide +kernel : kitB "str" "int" = some false)
  | .list _ => (by decide +kernel : kitB "list" "int" = some false)
  | .tuple _ => (by decide +kernel : kitB "tuple" "int" = some false)
  | .dict _ => (by decide +kernel : kitB "dict" "int" = some false)
theorem kit_bool : ∀ d : PyData, kitB (tyName d) "bool" = some (isB d)
  | .none => (by decide +kernel : kitB "NoneType" "bool" = some false)
  | .bool _ => (by decide +kernel : kitB "bool" "bool" = some true)
  | .int _ => (by decide +kernel : kitB "int" "bool" = some false)
  | .str _ => (by decide +kernel : kitB "str" "bool" = some false)
  | .list _ => (by decide +kernel : kitB "list" "bool" = some false)
  | .tuple _ => (by decide +kernel : kitB "tuple" "bool" = some false)
  | .dict _ => (by decide +kernel : kitB "dict" "bool" = some false)
/-- a whole number within -/
def wh (lo hi : Int) : PyData → Bool
  | .int i => decide (lo ≤ i) && decide (i ≤ hi)
  | _ => false
def T_is_whole (M : List Cell) (ws : List W) (o : Res) : Prop := ∃ d, ws = [.dat d] ∧ o = .ret (db (isInt d)) M
section
variable {K : PySem.W.Frag} {E : XK} {M : List Cell} {ws : List W} {o : Res}
def t_is_whole (K : PySem.W.Frag) : TS := (tRet (tAndV (tCB (rIsi K) (tCons (tVar 0) (tCons (tC (.ty "int")) tNil))) (tNotV (tCB (rIsi K) (tCons (tVar 0) (tCons (tC (.ty "bool")) tNil))))))
theorem big_is_whole (h : T_is_whole M ws o) : BigF K E (t_is_whole K) (args 1 ws) M o := by
  obtain ⟨d, rfl, rfl⟩ := h
  refine .rt (.ret ?_)
  refine Ev.is (Ev.and (b := isIB d) (c := !isB d) ?_ fun _ => ?_) ?_
  · walk_at "ev"
    exact kit_int d
  · walk_at "ev"
    exact kit_bool d
  · cases d <;> rfl
/-! ### within, need_count, is_debt -/
def T_within (M : List Cell) (ws : List W) (o : Res) : Prop := ∃ d lo hi, ws = [.dat d, di lo, di hi] ∧ o = .ret (db (wh lo hi d)) M
def t_within (K : PySem.W.Frag) : TS := (tRet (tAndV (tCall (spOf K T_is_whole) [] E0 (tCons (tVar 0) tNil)) (tChain xLe xLe (tVar 1) (tVar 0) (tVar 2))))
theorem big_within (h : T_within M ws o) : BigF K E (t_within K) (args 3 ws) M o := by
  obtain ⟨d, lo, hi, rfl, rfl⟩ := h
  refine .rt (.ret ?_)
  cases d with
  | int i =>
    refine Ev.is (Ev.and (b := true) (c := decide (lo ≤ i) && decide (i ≤ hi)) ?_ fun _ => ?_) ?_
    · exact .call (ea_cons (.var rfl) ea_nil) ⟨_, rfl, rfl⟩
    · exact Ev.chain (f := fun a b => decide (a ≤ b)) (g := fun a b => decide (a ≤ b)) (.var rfl) (.var rfl) fun _ => .var rfl
    · rfl
  | _ => exact Ev.and (b := false) (c := true) (.call (ea_cons (.var rfl) ea_nil) ⟨_, rfl, rfl⟩) (fun h => nomatch h)
def T_need_count (X : Xs) (M : List Cell) (ws : List W) (o : Res) : Prop := ∃ d, ws = [.dat d] ∧ o = if wh 1 20 d = true then .ret dn M else .rz (.ref X.BadCount) M
def t_need_count (K : PySem.W.Frag) (E : XK) (X : Xs) : TS := (tIfS (tNot (tB (tCall (spOf K T_within) [] E0 (tCons (tVar 0) (tCons (tC (.int 1)) (tCons (tC (.int 20)) tNil)))))) (tRz E X.BadCount) tNext)
theorem big_need_count {X : Xs} (h : T_need_count X M ws o) : BigF K E (t_need_count K E X) (args 1 ws) M o := by
  obtain ⟨d, rfl, rfl⟩ := h
  have hb : EvB K (tNot (tB (tCall (spOf K T_within) [] E0 (tCons (tVar 0) (tCons (tC (.int 1)) (tCons (tC (.int 20)) tNil)))))) (args 1 [.dat d]) M (!wh 1 20 d) M := .not (.val (.call (by walk_at "ev") ⟨_, _, _, rfl, rfl⟩))
  by_cases e : wh 1 20 d = true
  · rw [if_pos e]
    exact .none (N0 := []) (.is (.ite hb (fun z => by rw [e] at z; cases z) fun _ => .next) (by rw [List.append_nil]))
  · rw [if_neg e]
    exact .raise (N0 := []) (.is (.ite hb (fun _ => .rz) fun z => by simp [e] at z) (by rw [List.append_nil]))
def sameI : PyData → PyData → Bool
  | .int i, .int j => decide (i = j)
  | _, _ => false
/-- a debt among c houses -/
def isDebt (c : Int) : PyData → Bool
  | .tuple [x, y, z] => (wh 0 (c - 1) x && wh 0 (c - 1) y) && ((!sameI x y) && wh 1 1000000000 z)
  | _ => false
def isTup : PyData → Bool
  | .tuple _ => true
  | _ => false
theorem kit_tup : ∀ d : PyData, kitB (tyName d) "tuple" = some (isTup d)
  | .none => (by decide +kernel : kitB "NoneType" "tuple" = some false)
  | .bool _ => (by decide +kernel : kitB "bool" "tuple" = some false)
  | .int _ => (by decide +kernel : kitB "int" "tuple" = some false)
  | .str _ => (by decide +kernel : kitB "str" "tuple" = some false)
  | .list _ => (by decide +kernel : kitB "list" "tuple" = some false)
  | .tuple _ => (by decide +kernel : kitB "tuple" "tuple" = some true)
  | .dict _ => (by decide +kernel : kitB "dict" "tuple" = some false)
def isLst : PyData → Bool
  | .list _ => true
  | _ => false
theorem kit_lst : ∀ d : PyData, kitB (tyName d) "list" = some (isLst d)
  | .none => (by decide +kernel : kitB "NoneType" "list" = some false)
  | .bool _ => (by decide +kernel : kitB "bool" "list" = some false)
  | .int _ => (by decide +kernel : kitB "int" "list" = some false)
  | .str _ => (by decide +kernel : kitB "str" "list" = some false)
  | .list _ => (by decide +kernel : kitB "list" "list" = some true)
  | .tuple _ => (by decide +kernel : kitB "tuple" "list" = some false)
  | .dict _ => (by decide +kernel : kitB "dict" "list" = some false)
theorem wh_int {lo hi : Int} {d : PyData} (h : wh lo hi d = true) : ∃ i, d = .int i ∧ lo ≤ i ∧ i ≤ hi := by
  cases d with
  | int i =>
    have h : (decide (lo ≤ i) && decide (i ≤ hi)) = true := h
    rw [Bool.and_eq_true, decide_eq_true_eq, decide_eq_true_eq] at h
    exact ⟨i, rfl, h⟩
  | _ => exact nomatch h
def T_is_debt (M : List Cell) (ws : List W) (o : Res) : Prop := ∃ c d, ws = [di c, .dat d] ∧ o = .ret (db (isDebt c d)) M
def t_is_debt (K : PySem.W.Frag) : TS := (tSeq (tIfS (tOr (tNot (tB (tCB (rIsi K) (tCons (tVar 1) (tCons (tC (.ty "tuple")) tNil))))) (tTest (tOp rNe (tCB (rLenX K) (tCons (tVar 1) tNil)) (tC (.int 3))))) (tRet (tC (.bl false))) tNext)
    (tSeq (tIfS (tOr (tNot (tB (tCall (spOf K T_within) [] E0 (tCons (tOp (rIx K) (tVar 1) (tC (.int 0))) (tCons (tC (.int 0)) (tCons (tOp xSub (tVar 0) (tC (.int 1))) tNil)))))) (tNot (tB (tCall (spOf K T_within) [] E0 (tCons (tOp (rIx K) (tVar 1) (tC (.int 1))) (tCons (tC (.int 0)) (tCons (tOp xSub (tVar 0) (tC (.int 1))) tNil))))))) (tRet (tC (.bl false))) tNext)
    (tRet (tAndV (tOp rNe (tOp (rIx K) (tVar 1) (tC (.int 0))) (tOp (rIx K) (tVar 1) (tC (.int 1)))) (tCall (spOf K T_within) [] E0 (tCons (tOp (rIx K) (tVar 1) (tC (.int 2))) (tCons (tC (.int 1)) (tCons (tC (.int 1000000000)) tNil))))))))
theorem isDebt3 {c : Int} {d : PyData} (h : ¬ ∃ x y z, d = .tuple [x, y, z]) : isDebt c d = false := by
  unfold isDebt
  split
  · exact absurd ⟨_, _, _, rfl⟩ h
  · rfl
theorem big_is_debt (h : T_is_debt M ws o) : BigF K E (t_is_debt K) (args 2 ws) M o := by
  obtain ⟨c, d, rfl, rfl⟩ := h
  have ht : EvB K (tNot (tB (tCB (rIsi K) (tCons (tVar 1) (tCons (tC (.ty "tuple")) tNil))))) (args 2 [di c, .dat d]) M (!isTup d) M := by
    walk_at "ev"
    exact kit_tup d
  by_cases e : ∃ x y z, d = .tuple [x, y, z]
  · obtain ⟨x, y, z, rfl⟩ := e
    have hw : ∀ (i : Nat) (u : PyData) (lo : Int) (te : TE), [x, y, z][i]? = some u → Ev K te (args 2 [di c, .dat (.tuple [x, y, z])]) M (di (c - 1)) M → EvB K (tNot (tB (tCall (spOf K T_within) [] E0 (tCons (tOp (rIx K) (tVar 1) (tC (.int (i : Int)))) (tCons (tC (.int lo)) (tCons te tNil)))))) (args 2 [di c, .dat (.tuple [x, y, z])]) M (!wh lo (c - 1) u) M :=
      fun i u lo te hu he => .not (.val (.call (ea_cons (.ixG (.var rfl) .int (.tup (atI_nat hu))) (ea_cons .int (ea_cons he ea_nil))) ⟨_, _, _, rfl, rfl⟩))
    refine .rt (.seqIte (.or ht fun _ => .test (.ne (.lenG (.var rfl) (.tup _)) .int (.int _ _))) (fun z => by simp [isTup] at z) fun _ => .seqN (.seqIte (.or (hw 0 x 0 _ rfl ?_) fun _ => hw 1 y 0 _ rfl ?_) (fun q => .seqRet (.is .bl ?_)) fun q => .seqN (.ret ?_)))
    · walk_at "ev"
    · walk_at "ev"
    · have e2 : (wh 0 (c - 1) x && wh 0 (c - 1) y) = false := by
        rw [← Bool.not_eq_true', Bool.not_and]
        exact q
      show db false = db ((wh 0 (c - 1) x && wh 0 (c - 1) y) && _)
      rw [e2, Bool.false_and]
    · have q2 : (wh 0 (c - 1) x && wh 0 (c - 1) y) = true := by
        rw [← Bool.not_eq_false', Bool.not_and]
        exact q
      obtain ⟨hx, hy⟩ := Bool.and_eq_true_iff.mp q2
      obtain ⟨i, rfl, _⟩ := wh_int hx
      obtain ⟨j, rfl, _⟩ := wh_int hy
      refine Ev.is (Ev.and (b := !decide (i = j)) (c := wh 1 1000000000 z) (.ne (.ixG (.var rfl) .int (.tup rfl)) (.ixG (.var rfl) .int (.tup rfl)) (.int _ _)) fun _ => .call (ea_cons (.ixG (.var rfl) .int (.tup rfl)) (ea_cons .int (ea_cons .int ea_nil))) ⟨_, _, _, rfl, rfl⟩) ?_
      show db _ = db ((wh 0 (c - 1) _ && wh 0 (c - 1) _) && _)
      rw [q2, Bool.true_and] <;> rfl
  · rw [isDebt3 e]
    cases d with
    | tuple ds =>
      have hn : ¬ ds.length = 3 := fun h3 => by
        match ds, h3 with
        | [x, y, z], _ => exact e ⟨x, y, z, rfl⟩
      exact .rt (.seqIte (.or ht fun _ => .test (.ne (.lenG (.var rfl) (.tup _)) .int (.int _ _))) (fun _ => .seqRet .bl) fun q => by
        have q : (false || !decide ((ds.length : Int) = 3)) = false := q
        rw [decide_eq_false (by omega)] at q
        cases q)
    | _ => exact .rt (.seqIte (.or (c := true) ht fun z => nomatch z) (fun _ => .seqRet .bl) fun q => nomatch q)
end
/-- a debt: who owes, to whom, how much -/
structure Dt where
  a : Nat
  b : Nat
  m : Int
  deriving DecidableEq
def encD (d : Dt) : PyData := .tuple [.int (d.a : Int), .int (d.b : Int), .int d.m]
abbrev encDs (ds : List Dt) : List PyData := ds.map encD
structure DtOk (c : Nat) (d : Dt) : Prop where
  a : d.a < c
  b : d.b < c
  ne : d.a ≠ d.b
  lo : 1 ≤ d.m
  hi : d.m ≤ 1000000000
structure Book (c : Nat) (ds : List Dt) : Prop where
  lo : 1 ≤ c
  hi : c ≤ 20
  len : ds.length ≤ 60
  ok : ∀ d ∈ ds, DtOk c d
/-! ### balances -/
def addAt (f : List Int) (i : Nat) (x : Int) : List Int := f.set i (f.getD i 0 + x)
def balStep (f : List Int) (d : Dt) : List Int := addAt (addAt f d.a (-d.m)) d.b d.m
def bal (c : Nat) (ds : List Dt) : List Int := ds.foldl balStep (List.replicate c 0)
theorem addAt_len (f : List Int) (i : Nat) (x : Int) : (addAt f i x).length = f.length := by unfold addAt; rw [List.length_set]
theorem balStep_len (f : List Int) (d : Dt) : (balStep f d).length = f.length := by unfold balStep; rw [addAt_len, addAt_len]
theorem fold_len : ∀ (ds : List Dt) (f : List Int), (ds.foldl balStep f).length = f.length
  | [], _ => rfl
  | d :: r, f => by rw [List.foldl_cons, fold_len r, balStep_len]
theorem bal_len (c : Nat) (ds : List Dt) : (bal c ds).length = c := by unfold bal; rw [fold_len, List.length_replicate]
theorem getD_some {f : List Int} {i : Nat} (h : i < f.length) : f[i]? = some (f.getD i 0) := by
  rw [List.getD_eq_getElem?_getD, List.getElem?_eq_getElem h] <;> rfl
theorem set_map_di (f : List Int) (i : Nat) (x : Int) : (f.map di).set i (di x) = (f.set i x).map di := by rw [List.map_set]
theorem ixN_nat {n j : Nat} (hj : j < n) : ixN n (j : Int) = some j := by
  unfold ixN
  rw [if_pos (by omega), if_pos (by omega)]
  simp
section
variable {K : PySem.W.Frag} {E : XK} {M : List Cell} {ws : List W} {o : Res}
def T_balances (M : List Cell) (ws : List W) (o : Res) : Prop := ∃ (c : Nat) (ds : List Dt), ws = [di c, dl (encDs ds)] ∧ c ≤ 1000 ∧ (∀ d ∈ ds, d.a < c ∧ d.b < c) ∧ o = .ret (dl ((bal c ds).map .int)) M
def t_balances (K : PySem.W.Frag) : TS := (tSeq (tAsg (tOp rRep (tLst (tCons (tC (.int 0)) tNil)) (tVar 0)) (gName 2))
    (tSeq (tFor (iList K (tVar 1)) (gTup K 3 (gCons (gName 3) (gCons (gName 4) (gCons (gName 5) gNil)))) (tSeq (tAsg (tOp xSub (tOp (rIx K) (tVar 2) (tVar 3)) (tVar 5)) (gSub (tVar 2) (tVar 3) rSetL))
    (tAsg (tOp xAdd (tOp (rIx K) (tVar 2) (tVar 4)) (tVar 5)) (gSub (tVar 2) (tVar 4) rSetL))))
    (tRet (tVar 2))))
theorem bal_loop {c : W} {D : W} {n : Nat} : ∀ (ds : List Dt) (f : List Int) (x y z : Sl), (∀ d ∈ ds, d.a < n ∧ d.b < n) → f.length = n →
    ForL K E (gTup K 3 (gCons (gName 3) (gCons (gName 4) (gCons (gName 5) gNil)))) (tSeq (tAsg (tOp xSub (tOp (rIx K) (tVar 2) (tVar 3)) (tVar 5)) (gSub (tVar 2) (tVar 3) rSetL))
    (tAsg (tOp xAdd (tOp (rIx K) (tVar 2) (tVar 4)) (tVar 5)) (gSub (tVar 2) (tVar 4) rSetL))) ((encDs ds).map .dat) [some c, some D, some (.cel (M.length + 0)), x, y, z] (M ++ [.lst (f.map di)])
      (.nx [some c, some D, some (.cel (M.length + 0)), none, none, none] (M ++ [.lst ((ds.foldl balStep f).map di)]))
  | [], f, x, y, z, _, _ => ⟨_, .cons (.inr rfl) (.cons (.inr rfl) (.cons (.inr rfl) (.cons (.inl rfl) (.cons (.inl rfl) (.cons (.inl rfl) .nil))))), rfl⟩
  | d :: r, f, x, y, z, h, hf => by
    have h1 := h d List.mem_cons_self
    refine ⟨_, .tup3 (.seq (.setItemL (k := 0) (w := di (f.getD d.a 0 + -d.m)) (n := d.a) ?_ (.var rfl) (.var rfl) rfl ?_) (.setItemL (k := 0) (w := di ((addAt f d.a (-d.m)).getD d.b 0 + d.m)) (n := d.b) ?_ (.var rfl) (.var rfl) rfl ?_)), ?_⟩
    · walk_at "ev"
      exact .lst (.cel (getL rfl)) (atI_map (atI_nat (getD_some (by omega))))
    · rw [List.length_map]
      exact ixN_nat (by omega)
    · walk_at "ev"
      exact .lst (.cel (getL rfl)) (by rw [set_map_di]; exact atI_map (atI_nat (getD_some (by rw [List.length_set]; omega))))
    · rw [List.length_set, List.length_map]
      exact ixN_nat (by omega)
    · show ForL _ _ _ _ _ _ (M ++ [.lst (((f.map di).set d.a (di _)).set d.b (di _))]) _
      rw [set_map_di, set_map_di]
      exact bal_loop r (balStep f d) _ _ _ (fun e he => h e (List.mem_cons_of_mem _ he)) (by rw [balStep_len]; exact hf)
theorem big_balances (h : T_balances M ws o) : BigF K E (t_balances K) (args 6 ws) M o := by
  obtain ⟨c, ds, rfl, hc, hd, rfl⟩ := h
  refine .dat (N0 := [.dead]) (.seq (.asg (.repC .int (.var rfl) (by omega))) (.seq (s1 := [some (di c), some (dl (encDs ds)), some (.cel (M.length + 0)), none, none, none]) (M1 := M ++ [.lst ((bal c ds).map di)]) (.forL (.var rfl) ?_) (.ret (.frzL (k := 0) (.var rfl) ?_))))
  · have q := bal_loop (K := K) (E := E) (M := M) (c := di c) (D := dl (encDs ds)) (n := c) ds (List.replicate c 0) none none none hd List.length_replicate
    rw [List.map_replicate] at q
    exact q
  · rw [map_dat_ints] <;> rfl
/-! ### checked, total -/
/-- what checked does with a count and a list -/
def chk (X : Xs) (M : List Cell) (d e : PyData) : Res :=
  if wh 1 20 d = true then
    match d, e with
    | .int c, .list ds => if ds.length ≤ 60 ∧ ds.all (isDebt c) = true then .ret (.cel M.length) (M ++ [.lst (ds.map .dat)]) else .rz (.ref X.BadDebt) M
    | _, _ => .rz (.ref X.BadDebt) M
  else .rz (.ref X.BadCount) M
def T_checked (X : Xs) (M : List Cell) (ws : List W) (o : Res) : Prop := (∃ d e, ws = [.dat d, .dat e] ∧ o = chk X M d e) ∨
  ∃ d j kvs, ws = [.dat d, .cel j] ∧ M[j]? = some (.dic kvs) ∧ wh 1 20 d = true ∧ o = .rz (.ref X.BadDebt) M
def t_checked (K : PySem.W.Frag) (E : XK) (X : Xs) : TS := (tSeq (tDrop (tCall (spOf K (T_need_count X)) [] E (tCons (tVar 0) tNil)))
    (tSeq (tIfS (tOr (tNot (tB (tCB (rIsi K) (tCons (tVar 1) (tCons (tC (.ty "list")) tNil))))) (tTest (tOp xGt (tCB (rLenX K) (tCons (tVar 1) tNil)) (tC (.int 60))))) (tRz E X.BadDebt) tNext)
    (tSeq (tIfS (tNot (tB (tCB (rAll K) (tCons (tLc (iList K (tVar 1)) (gName 2) tYes (tCall (spOf K T_is_debt) [] E0 (tCons (tVar 0) (tCons (tVar 2) tNil))) [2]) tNil)))) (tRz E X.BadDebt) tNext)
    (tRet (tCB (rListX K) (tCons (tVar 1) tNil))))))
theorem all_id {α : Type} (p : α → Bool) (xs : List α) : (xs.map p).all id = xs.all p := by rw [List.all_map] <;> rfl
theorem big_checked {X : Xs} (h : T_checked X M ws o) : BigF K E (t_checked K E X) (args 3 ws) M o := by
  rcases h with ⟨d, e, rfl, rfl⟩ | ⟨d, j, kvs, rfl, hm, hw, rfl⟩
  case inr =>
    have h1 : Big K E (tDrop (tCall (spOf K (T_need_count X)) [] E (tCons (tVar 0) tNil))) (args 3 [.dat d, .cel j]) M (.nx (args 3 [.dat d, .cel j]) M) := .drop (.call (ea_cons (.var rfl) ea_nil) ⟨_, rfl, by rw [if_pos hw]⟩)
    exact .raise (N0 := []) (.is (.seq h1 (.seqIte (b := true) (.or (b := !false) (c := true) (.not (.val (.isiD (.var rfl) hm (by decide +kernel)))) fun z => nomatch z) (fun _ => .seqZ .rz) fun z => nomatch z)) (by rw [List.append_nil]))
  unfold chk
  by_cases hw : wh 1 20 d = true
  · rw [if_pos hw]
    obtain ⟨c, rfl, _⟩ := wh_int hw
    have h1 : Big K E (tDrop (tCall (spOf K (T_need_count X)) [] E (tCons (tVar 0) tNil))) (args 3 [.dat (.int c), .dat e]) M (.nx (args 3 [.dat (.int c), .dat e]) M) := .drop (.call (ea_cons (.var rfl) ea_nil) ⟨_, rfl, by rw [if_pos hw]⟩)
    have ht : EvB K (tNot (tB (tCB (rIsi K) (tCons (tVar 1) (tCons (tC (.ty "list")) tNil))))) (args 3 [.dat (.int c), .dat e]) M (!isLst e) M := by
      walk_at "ev"
      exact kit_lst e
    cases e with
    | list ds =>
      have hall : EvB K (tNot (tB (tCB (rAll K) (tCons (tLc (iList K (tVar 1)) (gName 2) tYes (tCall (spOf K T_is_debt) [] E0 (tCons (tVar 0) (tCons (tVar 2) tNil))) [2]) tNil)))) (args 3 [.dat (.int c), .dat (.list ds)]) M (!ds.all (isDebt c)) M ∨ 60 < ds.length := by
        by_cases hl : 60 < ds.length
        · exact .inr hl
        · refine .inl (.not (.val (.is (.all (bs := ds.map (isDebt c)) ?_) (by rw [all_id]))))
          rw [List.map_map]
          exact .lcL1 (enc := W.dat) (f := fun d => .bool (isDebt c d)) (.var rfl) (.dat ds) (by omega) fun a _ => .call (ea_cons (.var rfl) (ea_cons (.var rfl) ea_nil)) ⟨_, _, rfl, rfl⟩
      have hlen : EvB K (tOr (tNot (tB (tCB (rIsi K) (tCons (tVar 1) (tCons (tC (.ty "list")) tNil))))) (tTest (tOp xGt (tCB (rLenX K) (tCons (tVar 1) tNil)) (tC (.int 60))))) (args 3 [.dat (.int c), .dat (.list ds)]) M (decide ((60 : Int) < ds.length)) M := .or ht fun _ => .test (.gt (.lenG (.var rfl) .dl) .int)
      dsimp only
      by_cases hl : 60 < ds.length
      · rw [if_neg (by omega)]
        exact .raise (N0 := []) (.is (.seq h1 (.seqIte hlen (fun _ => .seqZ .rz) fun z => by rw [decide_eq_true (by omega)] at z; cases z)) (by rw [List.append_nil]))
      · have hall' := hall.resolve_right hl
        by_cases ha : ds.all (isDebt c) = true
        · rw [if_pos ⟨by omega, ha⟩]
          exact .rt (.seq h1 (.seqIte hlen (fun z => by rw [decide_eq_false (by omega)] at z; cases z) fun _ => .seqN (.seqIte hall' (fun z => by rw [ha] at z; cases z) fun _ => .seqN (.ret (.listC (.var rfl) (.dat ds))))))
        · rw [if_neg (by simp [ha])]
          exact .raise (N0 := []) (.is (.seq h1 (.seqIte hlen (fun z => by rw [decide_eq_false (by omega)] at z; cases z) fun _ => .seqN (.seqIte hall' (fun _ => .seqZ .rz) fun z => by simp [ha] at z))) (by rw [List.append_nil]))
    | _ => exact .raise (N0 := []) (.is (.seq h1 (.seqIte (.or (c := true) ht fun z => nomatch z) (fun _ => .seqZ .rz) fun z => nomatch z)) (by rw [List.append_nil]))
  · rw [if_neg hw]
    refine .raise (N0 := []) (.is (.seqZ (c := .ref X.BadCount) (M1 := M) ?_) (by rw [List.append_nil]))
    exact .callZ (ea_cons (.var rfl) ea_nil) ⟨_, rfl, by rw [if_neg hw]⟩
def T_total (M : List Cell) (ws : List W) (o : Res) : Prop := ∃ ds : List Dt, ws = [dl (encDs ds)] ∧ ds.length ≤ 1000 ∧ o = .ret (di (ds.map (·.m)).sum) M
def t_total (K : PySem.W.Frag) : TS := (tRet (tCB (rSum K) (tCons (tLc (iList K (tVar 0)) (gName 1) tYes (tOp (rIx K) (tVar 1) (tC (.int 2))) [1]) tNil)))
theorem big_total (h : T_total M ws o) : BigF K E (t_total K) (args 2 ws) M o := by
  obtain ⟨ds, rfl, hl, rfl⟩ := h
  refine .rt (.ret (.sumL (w := dl (ds.map fun d => .int d.m)) (.lcL1 (enc := fun d => .dat (encD d)) (.var rfl) ?_ (by omega) fun d _ => .ixG (.var rfl) .int (.tup rfl)) ?_))
  · have q := LstOf.dat (M := M) (encDs ds)
    rw [List.map_map] at q
    exact q
  · have q := LstOf.dat (M := M) (ds.map fun d => PyData.int d.m)
    rw [List.map_map] at q ⊢
    exact q
end
end Bk

set_option Elab.async false
set_option linter.all false
set_option maxRecDepth 100000
set_option maxHeartbeats 4000000
/-! B2: the laws' own helpers: cells, debts, counts, balances -/
namespace Bk
open PySem L2 Vx
local macro_rules | `(tactic| walk_at "ev") => `(tactic| repeat' first
  | exact Ev.var rfl | exact Ev.int | exact Ev.bl | exact Ev.str | exact Ev.non | exact ea_nil
  | apply Ev.add | apply Ev.sub | apply Ev.lt | apply Ev.le | apply Ev.gt | apply Ev.ge
  | apply Ev.mul | apply Ev.mod | apply Ev.div | apply Ev.pow
  | apply Ev.ixG | apply Ev.eq | apply Ev.ne | apply Ev.lenG | apply ed_cons
  | apply ea_cons | apply Ev.tup | apply EvB.val | apply EvB.test | apply EvB.not
  | apply Ev.isT | apply Ev.not | exact Nat.le_of_ble_eq_true rfl | exact EqOf.int _ _ | exact EqOf.bl _ _ | exact EqOf.str _ _
  | exact IxOf.tup rfl | exact LenOf.map | exact LenOf.dl | exact LenOf.tup _ | exact LstOf.dat _ | exact LstOf.scr _ | exact LstOf.cel rfl | exact LstOf.cel (getL rfl))

/-! ### the mathematics -/
/-- the k-th cell of a script -/
def cellAt (ns : List Int) (k : Nat) : Int := ns.getD k 0
def mixed (x : Int) (k : Nat) : Int := (x % 1000000007 + 7919 * (k : Int) + 11) * 48271 % 2147483647
def amt (x m : Int) : Int :=
  if decide (m / 400 % 5 = 3) = true then 1000000000 - m / 2000 % 3 else
    if decide (m / 400 % 5 = 2) = true then 1 + x % 1000000000 else
      if decide (m / 400 % 5 = 1) = true then 1 + m / 2000 % 40 else 1 + m / 2000 % 3
def mkDebt (x : Int) (k c : Nat) : Dt := ⟨(mixed x k % (c : Int)).toNat, ((mixed x k % (c : Int) + 1 + mixed x k / (c : Int) % ((c : Int) - 1)) % (c : Int)).toNat, amt x (mixed x k)⟩
theorem shift_ne {a t c : Int} (ha : 0 ≤ a) (hc : a < c) (h0 : 1 ≤ t) (h1 : t < c) : (a + t) % c ≠ a := by
  by_cases h : a + t < c
  · rw [Int.emod_eq_of_lt (by omega) h]
    omega
  · have e : (a + t) % c = a + t - c := by
      rw [← Int.sub_emod_right, Int.emod_eq_of_lt (by omega) (by omega)]
    rw [e]
    omega
theorem amt_ok (x m : Int) : 1 ≤ amt x m ∧ amt x m ≤ 1000000000 := by
  unfold amt
  split
  · omega
  · split
    · omega
    · split <;> omega
theorem mkDebt_ok {x : Int} {k c : Nat} (hc : 2 ≤ c) : DtOk c (mkDebt x k c) := by
  obtain ⟨h1, h2⟩ := amt_ok x (mixed x k)
  have a0 := Int.emod_nonneg (mixed x k) (show (c : Int) ≠ 0 by omega)
  have a1 := Int.emod_lt_of_pos (mixed x k) (show (0 : Int) < c by omega)
  have r0 := Int.emod_nonneg (mixed x k / (c : Int)) (show (c : Int) - 1 ≠ 0 by omega)
  have r1 := Int.emod_lt_of_pos (mixed x k / (c : Int)) (show (0 : Int) < (c : Int) - 1 by omega)
  have b0 := Int.emod_nonneg (mixed x k % (c : Int) + 1 + mixed x k / (c : Int) % ((c : Int) - 1)) (show (c : Int) ≠ 0 by omega)
  have b1 := Int.emod_lt_of_pos (mixed x k % (c : Int) + 1 + mixed x k / (c : Int) % ((c : Int) - 1)) (show (0 : Int) < c by omega)
  have ne := shift_ne a0 a1 (t := 1 + mixed x k / (c : Int) % ((c : Int) - 1)) (by omega) (by omega)
  rw [← Int.add_assoc] at ne
  refine ⟨?_, ?_, ?_, h1, h2⟩
  · show (_ : Int).toNat < c
    omega
  · show (_ : Int).toNat < c
    omega
  · show (_ : Int).toNat ≠ (_ : Int).toNat
    omega
def count (ns : List Int) : Nat :=
  if cellAt ns 0 / 5 % 6 = 1 then (2 + cellAt ns 0 / 30 % 8).toNat else if cellAt ns 0 / 5 % 12 = 2 then (10 + cellAt ns 0 / 60 % 11).toNat else (2 + cellAt ns 0 % 5).toNat
theorem count_ok (ns : List Int) : 2 ≤ count ns ∧ count ns ≤ 20 := by
  unfold count
  split
  · omega
  · split <;> omega
def insAt {α : Type} (l : List α) (n : Nat) (x : α) : List α := l.take n ++ [x] ++ l.drop n
theorem insAt_len {α : Type} (l : List α) (n : Nat) (x : α) : (insAt l n x).length = l.length + 1 := by
  unfold insAt
  rw [List.length_append, List.length_append, List.length_take, List.length_drop, List.length_singleton]
  omega
theorem insAt_mem {α : Type} {l : List α} {n : Nat} {x y : α} (h : y ∈ insAt l n x) : y = x ∨ y ∈ l := by
  unfold insAt at h
  rcases List.mem_append.mp h with h | h
  · rcases List.mem_append.mp h with h | h
    · exact .inr (List.mem_of_mem_take h)
    · exact .inl (List.mem_singleton.mp h)
  · exact .inr (List.mem_of_mem_drop h)
theorem insAt_map {α β : Type} (f : α → β) (l : List α) (n : Nat) (x : α) : (insAt l n x).map f = (l.map f).take n ++ [f x] ++ (l.map f).drop n := by
  unfold insAt
  rw [List.map_append, List.map_append, List.map_take, List.map_drop] <;> rfl
/-- a debt of the ring through all houses -/
def ringH (x : Int) (c k : Nat) : Int := if decide (x / 9 % 6 = 4) = true then (c : Int) - 1 - (x / 54 + (k : Int)) % (c : Int) else (x / 54 + (k : Int)) % (c : Int)
def ringD (x : Int) (c k : Nat) : Dt := ⟨(ringH x c k).toNat, ((ringH x c k + 1) % (c : Int)).toNat, (mkDebt x k c).m⟩
def ringStep (x : Int) (c : Nat) (ds : List Dt) (k : Nat) : List Dt := insAt ds (x / 54 % ((ds.length : Int) + 1)).toNat (ringD x c k)
def many (x : Int) : Int := if decide (x / 9 % 6 = 1) = true then 9 + x / 54 % 9 else x % 9
def debts (ns : List Int) (f c : Nat) : List Dt :=
  let base := (List.range (many (cellAt ns 1)).toNat).map fun k => mkDebt (cellAt ns (f + k)) k c
  if decide (3 < cellAt ns 1 / 9 % 6) = true then (List.range c).foldl (ringStep (cellAt ns 1) c) base else base
theorem many_ok (x : Int) : 0 ≤ many x ∧ many x ≤ 17 := by
  unfold many
  split <;> omega
theorem ringH_ok {x : Int} {c k : Nat} (hc : 2 ≤ c) : 0 ≤ ringH x c k ∧ ringH x c k < c := by
  have a0 := Int.emod_nonneg (x / 54 + (k : Int)) (show (c : Int) ≠ 0 by omega)
  have a1 := Int.emod_lt_of_pos (x / 54 + (k : Int)) (show (0 : Int) < c by omega)
  unfold ringH
  split <;> omega
theorem ringD_ok {x : Int} {c k : Nat} (hc : 2 ≤ c) : DtOk c (ringD x c k) := by
  obtain ⟨h0, h1⟩ := ringH_ok (x := x) (k := k) hc
  have q := mkDebt_ok (x := x) (k := k) hc
  have b0 := Int.emod_nonneg (ringH x c k + 1) (show (c : Int) ≠ 0 by omega)
  have b1 := Int.emod_lt_of_pos (ringH x c k + 1) (show (0 : Int) < c by omega)
  have ne := shift_ne h0 h1 (t := 1) (by omega) (by omega)
  refine ⟨?_, ?_, ?_, q.lo, q.hi⟩
  · show (_ : Int).toNat < c
    omega
  · show (_ : Int).toNat < c
    omega
  · show (_ : Int).toNat ≠ (_ : Int).toNat
    omega
theorem ring_ok {x : Int} {c : Nat} (hc : 2 ≤ c) : ∀ (l : List Nat) (ds : List Dt), (∀ d ∈ ds, DtOk c d) → (l.foldl (ringStep x c) ds).length = ds.length + l.length ∧ ∀ d ∈ l.foldl (ringStep x c) ds, DtOk c d
  | [], ds, h => ⟨rfl, h⟩
  | k :: r, ds, h => by
    have q := ring_ok (x := x) hc r (ringStep x c ds k) fun d hd => (insAt_mem hd).elim (fun e => e ▸ ringD_ok hc) (h d)
    refine ⟨?_, q.2⟩
    rw [List.foldl_cons, q.1]
    unfold ringStep
    rw [insAt_len, List.length_cons]
    omega
theorem base_ok {ns : List Int} {f c n : Nat} (hc : 2 ≤ c) : ∀ d ∈ (List.range n).map fun k => mkDebt (cellAt ns (f + k)) k c, DtOk c d := fun d hd => by
  obtain ⟨k, _, rfl⟩ := List.mem_map.mp hd
  exact mkDebt_ok hc
theorem debts_ok {ns : List Int} {f c : Nat} (hc : 2 ≤ c) (h20 : c ≤ 20) : Book c (debts ns f c) ∧ (debts ns f c).length ≤ 37 := by
  have hm := many_ok (cellAt ns 1)
  have hb := base_ok (ns := ns) (f := f) (n := (many (cellAt ns 1)).toNat) hc
  have hl : ((List.range (many (cellAt ns 1)).toNat).map fun k => mkDebt (cellAt ns (f + k)) k c).length ≤ 17 := by
    rw [List.length_map, List.length_range]
    omega
  unfold debts
  dsimp only
  split
  · obtain ⟨q1, q2⟩ := ring_ok (x := cellAt ns 1) hc (List.range c) _ hb
    have q3 : (List.foldl (ringStep (cellAt ns 1) c) ((List.range (many (cellAt ns 1)).toNat).map fun k => mkDebt (cellAt ns (f + k)) k c) (List.range c)).length ≤ 37 := by
      rw [q1, List.length_range]
      omega
    exact ⟨⟨by omega, h20, by omega, q2⟩, q3⟩
  · exact ⟨⟨by omega, h20, by omega, hb⟩, by omega⟩
theorem di_ite {b : Bool} {x y : Int} : di (if b = true then x else y) = if b = true then di x else di y := by split <;> rfl

section
variable {K : PySem.W.Frag} {E : XK} {M : List Cell} {ws : List W} {o : Res}
def T_qcell_at (M : List Cell) (ws : List W) (o : Res) : Prop := ∃ (ns : List Int) (k : Nat), ws = [.scr ns, di k] ∧ o = .ret (di (cellAt ns k)) M
def t_qcell_at (K : PySem.W.Frag) : TS := (tSeq (tIfS (tTest (tOp xLt (tVar 1) (tCB (rLenX K) (tCons (tVar 0) tNil)))) (tRet (tOp (rIx K) (tVar 0) (tVar 1))) tNext)
    (tRet (tC (.int 0))))
theorem big_qcell_at (h : T_qcell_at M ws o) : BigF K E (t_qcell_at K) (args 2 ws) M o := by
  obtain ⟨ns, k, rfl, rfl⟩ := h
  have hl : LenOf M (.scr ns) (ns.length : Int) := by
    have q := LenOf.lst (M := M) (LstOf.scr ns)
    rw [List.length_map] at q
    exact q
  refine .rt (.seqIte (.test (.lt (.var rfl) (.lenG (.var rfl) hl))) (fun q => .seqRet (.ixG (.var rfl) (.var rfl) (.lst (.scr ns) (atI_map (atI_nat ?_))))) fun q => .seqN (.ret (.is .int ?_)))
  · have q := of_decide_eq_true q
    exact getD_some (by omega)
  · have q := of_decide_eq_false q
    unfold cellAt
    rw [List.getD_eq_getElem?_getD, List.getElem?_eq_none (by omega)] <;> rfl
def T_qwhole (M : List Cell) (ws : List W) (o : Res) : Prop := ∃ d, ws = [.dat d] ∧ o = .ret (db (isInt d)) M
abbrev t_qwhole (K : PySem.W.Frag) : TS := t_is_whole K
theorem big_qwhole (h : T_qwhole M ws o) : BigF K E (t_qwhole K) (args 1 ws) M o := big_is_whole h
def T_qdebt (M : List Cell) (ws : List W) (o : Res) : Prop := ∃ (x : Int) (k c : Nat), ws = [di x, di k, di c] ∧ 2 ≤ c ∧ c ≤ 20 ∧ k ≤ 1000 ∧ o = .ret (.dat (encD (mkDebt x k c))) M
def t_qdebt (K : PySem.W.Frag) : TS := (tSeq (tAsg (tOp xMod (tOp xMul (tOp xAdd (tOp xAdd (tOp xMod (tVar 0) (tC (.int 1000000007))) (tOp xMul (tC (.int 7919)) (tVar 1))) (tC (.int 11))) (tC (.int 48271))) (tC (.int 2147483647))) (gName 3))
    (tSeq (tAsg (tOp xMod (tVar 3) (tVar 2)) (gName 4))
    (tSeq (tAsg (tOp xMod (tOp xAdd (tOp xAdd (tVar 4) (tC (.int 1))) (tOp xMod (tOp xDiv (tVar 3) (tVar 2)) (tOp xSub (tVar 2) (tC (.int 1))))) (tVar 2)) (gName 5))
    (tSeq (tAsg (tOp xMod (tOp xDiv (tVar 3) (tC (.int 400))) (tC (.int 5))) (gName 6))
    (tSeq (tAsg (tOp xAdd (tC (.int 1)) (tOp xMod (tOp xDiv (tVar 3) (tC (.int 2000))) (tC (.int 3)))) (gName 7))
    (tSeq (tIfS (tTest (tOp rEq (tVar 6) (tC (.int 1)))) (tAsg (tOp xAdd (tC (.int 1)) (tOp xMod (tOp xDiv (tVar 3) (tC (.int 2000))) (tC (.int 40)))) (gName 7)) tNext)
    (tSeq (tIfS (tTest (tOp rEq (tVar 6) (tC (.int 2)))) (tAsg (tOp xAdd (tC (.int 1)) (tOp xMod (tVar 0) (tC (.int 1000000000)))) (gName 7)) tNext)
    (tSeq (tIfS (tTest (tOp rEq (tVar 6) (tC (.int 3)))) (tAsg (tOp xSub (tC (.int 1000000000)) (tOp xMod (tOp xDiv (tVar 3) (tC (.int 2000))) (tC (.int 3)))) (gName 7)) tNext)
    (tRet (tTup (tCons (tVar 4) (tCons (tVar 5) (tCons (tVar 7) tNil)))))))))))))
theorem mulR {i j : Int} (h : -(2 ^ 64) < j ∧ j < 2 ^ 64) : CMul i j := .inr h
theorem mulL {i j : Int} (h : -(2 ^ 64) < i ∧ i < 2 ^ 64) : CMul i j := .inl h
theorem big_qdebt (h : T_qdebt M ws o) : BigF K E (t_qdebt K) (args 8 ws) M o := by
  obtain ⟨x, k, c, rfl, h2, h20, hk, rfl⟩ := h
  refine .rt (.st (w := di (mixed x k)) ?_ (.st (w := di (mixed x k % (c : Int))) ?_ (.st (w := di ((mixed x k % (c : Int) + 1 + mixed x k / (c : Int) % ((c : Int) - 1)) % (c : Int))) ?_ (.st (w := di (mixed x k / 400 % 5)) ?_
    (.st (w := di (1 + mixed x k / 2000 % 3)) ?_ (.stIf (b := decide (mixed x k / 400 % 5 = 1)) (w1 := di (1 + mixed x k / 2000 % 40)) ?_ (fun _ => ?_) rfl di_ite (.stIf (b := decide (mixed x k / 400 % 5 = 2)) (w1 := di (1 + x % 1000000000)) ?_ (fun _ => ?_) rfl di_ite
    (.stIf (b := decide (mixed x k / 400 % 5 = 3)) (w1 := di (1000000000 - mixed x k / 2000 % 3)) ?_ (fun _ => ?_) rfl di_ite (.ret (.is (w := dt [.int (mixed x k % (c : Int)), .int ((mixed x k % (c : Int) + 1 + mixed x k / (c : Int) % ((c : Int) - 1)) % (c : Int)), .int (amt x (mixed x k))]) ?_ ?_))))))))))
  all_goals try (walk_at "ev")
  any_goals first | exact mulR (by omega) | exact mulL (by omega) | omega | (show (3 : Nat) ≤ 1000; omega)
  unfold mkDebt encD
  have a0 := Int.emod_nonneg (mixed x k) (show (c : Int) ≠ 0 by omega)
  have b0 := Int.emod_nonneg (mixed x k % (c : Int) + 1 + mixed x k / (c : Int) % ((c : Int) - 1)) (show (c : Int) ≠ 0 by omega)
  dsimp only
  rw [Int.toNat_of_nonneg a0, Int.toNat_of_nonneg b0]
def T_qcount (M : List Cell) (ws : List W) (o : Res) : Prop := ∃ ns : List Int, ws = [.scr ns] ∧ o = .ret (di (count ns : Int)) M
def t_qcount (K : PySem.W.Frag) : TS := (tSeq (tAsg (tCall (spOf K T_qcell_at) [] E0 (tCons (tVar 0) (tCons (tC (.int 0)) tNil))) (gName 1))
    (tSeq (tIfS (tTest (tOp rEq (tOp xMod (tOp xDiv (tVar 1) (tC (.int 5))) (tC (.int 6))) (tC (.int 1)))) (tRet (tOp xAdd (tC (.int 2)) (tOp xMod (tOp xDiv (tVar 1) (tC (.int 30))) (tC (.int 8))))) tNext)
    (tSeq (tIfS (tTest (tOp rEq (tOp xMod (tOp xDiv (tVar 1) (tC (.int 5))) (tC (.int 12))) (tC (.int 2)))) (tRet (tOp xAdd (tC (.int 10)) (tOp xMod (tOp xDiv (tVar 1) (tC (.int 60))) (tC (.int 11))))) tNext)
    (tRet (tOp xAdd (tC (.int 2)) (tOp xMod (tVar 1) (tC (.int 5))))))))
theorem big_qcount (h : T_qcount M ws o) : BigF K E (t_qcount K) (args 2 ws) M o := by
  obtain ⟨ns, rfl, rfl⟩ := h
  refine .rt (.st (w := di (cellAt ns 0)) (.call (ea_cons (.var rfl) (ea_cons .int ea_nil)) ⟨ns, 0, rfl, rfl⟩) (.retIf (b := decide (cellAt ns 0 / 5 % 6 = 1)) ?_ (fun q => .ret (.is (w := di (2 + cellAt ns 0 / 30 % 8)) ?_ ?_)) (fun q => .retIf (b := decide (cellAt ns 0 / 5 % 12 = 2)) ?_ (fun q2 => .ret (.is (w := di (10 + cellAt ns 0 / 60 % 11)) ?_ ?_)) (fun q2 => .ret (.is (w := di (2 + cellAt ns 0 % 5)) ?_ ?_)) ⟨_, _, rfl⟩) ⟨_, _, rfl⟩))
  all_goals try (walk_at "ev")
  any_goals omega
  · have q := of_decide_eq_true q
    congr 2
    unfold count
    rw [if_pos q]
    omega
  · have q := of_decide_eq_false q
    have q2 := of_decide_eq_true q2
    congr 2
    unfold count
    rw [if_neg q, if_pos q2]
    omega
  · have q := of_decide_eq_false q
    have q2 := of_decide_eq_false q2
    congr 2
    unfold count
    rw [if_neg q, if_neg q2]
    omega
def T_qdebts (M : List Cell) (ws : List W) (o : Res) : Prop := ∃ (ns : List Int) (f c : Nat), ws = [.scr ns, di f, di c] ∧ 2 ≤ c ∧ c ≤ 20 ∧ o = .ret (dl (encDs (debts ns f c))) M
def u_qdebts (K : PySem.W.Frag) : TS := (tSeq (tAsg (tOp xMod (tOp xAdd (tOp xDiv (tVar 3) (tC (.int 54))) (tVar 5)) (tVar 2)) (gName 7))
    (tSeq (tAsg (tOp (rIx K) (tCall (spOf K T_qdebt) [] E0 (tCons (tVar 3) (tCons (tVar 5) (tCons (tVar 2) tNil)))) (tC (.int 2))) (gName 8))
    (tSeq (tIfS (tTest (tOp rEq (tOp xMod (tOp xDiv (tVar 3) (tC (.int 9))) (tC (.int 6))) (tC (.int 4)))) (tAsg (tOp xSub (tOp xSub (tVar 2) (tC (.int 1))) (tVar 7)) (gName 7)) tNext)
    (tDrop (tBM K "list" rInsert (tVar 6) (tCons (tOp xMod (tOp xDiv (tVar 3) (tC (.int 54))) (tOp xAdd (tCB (rLenX K) (tCons (tVar 6) tNil)) (tC (.int 1)))) (tCons (tTup (tCons (tVar 7) (tCons (tOp xMod (tOp xAdd (tVar 7) (tC (.int 1))) (tVar 2)) (tCons (tVar 8) tNil)))) tNil)))))))
def t_qdebts (K : PySem.W.Frag) : TS := (tSeq (tAsg (tCall (spOf K T_qcell_at) [] E0 (tCons (tVar 0) (tCons (tC (.int 1)) tNil))) (gName 3))
    (tSeq (tAsg (tOp xMod (tVar 3) (tC (.int 9))) (gName 4))
    (tSeq (tIfS (tTest (tOp rEq (tOp xMod (tOp xDiv (tVar 3) (tC (.int 9))) (tC (.int 6))) (tC (.int 1)))) (tAsg (tOp xAdd (tC (.int 9)) (tOp xMod (tOp xDiv (tVar 3) (tC (.int 54))) (tC (.int 9)))) (gName 4)) tNext)
    (tSeq (tAsg (tLc (iRng1 (tCons (tVar 4) tNil)) (gName 5) tYes (tCall (spOf K T_qdebt) [] E0 (tCons (tCall (spOf K T_qcell_at) [] E0 (tCons (tVar 0) (tCons (tOp xAdd (tVar 1) (tVar 5)) tNil))) (tCons (tVar 5) (tCons (tVar 2) tNil)))) [5]) (gName 6))
    (tSeq (tIfS (tTest (tOp xGt (tOp xMod (tOp xDiv (tVar 3) (tC (.int 9))) (tC (.int 6))) (tC (.int 3)))) (tFor (iRng1 (tCons (tVar 2) tNil)) (gName 5) (u_qdebts K)) tNext)
    (tRet (tVar 6)))))))
theorem ring_loop {ns : List Int} {f c : Nat} {x : Int} (h2 : 2 ≤ c) (h20 : c ≤ 20) {w1 w4 : Sl} : ∀ (l : List Nat) (ds : List Dt) (s5 s7 s8 : Sl), (∀ k ∈ l, k ≤ 1000) → ds.length + l.length ≤ 60 →
    ForL K E (gName 5) (u_qdebts K) (l.map natW) [some (.scr ns), w1, some (di c), some (di x), w4, s5, some (.cel (M.length + 0)), s7, s8] (M ++ [.lst ((encDs ds).map .dat)])
      (.nx [some (.scr ns), w1, some (di c), some (di x), w4, none, some (.cel (M.length + 0)), none, none] (M ++ [.lst ((encDs (l.foldl (ringStep x c) ds)).map .dat)]))
  | [], ds, s5, s7, s8, _, _ => ⟨_, .cons (.inr rfl) (.cons (.inr rfl) (.cons (.inr rfl) (.cons (.inr rfl) (.cons (.inr rfl) (.cons (.inl rfl) (.cons (.inr rfl) (.cons (.inl rfl) (.cons (.inl rfl) .nil)))))))), rfl⟩
  | k :: r, ds, s5, s7, s8, hk, hl => by
    have hc0 : (0 : Int) < c := by omega
    have p0 := Int.emod_nonneg (x / 54) (show ((ds.length : Int) + 1) ≠ 0 by omega)
    have p1 := Int.emod_lt_of_pos (x / 54) (show (0 : Int) < (ds.length : Int) + 1 by omega)
    rw [List.length_cons] at hl
    obtain ⟨r0, r1⟩ := ringH_ok (x := x) (k := k) h2
    have b0 := Int.emod_nonneg (ringH x c k + 1) (show (c : Int) ≠ 0 by omega)
    have lenE : ((encDs ds).map W.dat).length = ds.length := by rw [List.length_map, List.length_map]
    refine ⟨_, .name (.st (w := di ((x / 54 + (k : Int)) % (c : Int))) ?_ (.st (w := di (mkDebt x k c).m) ?_ (.stIf (b := decide (x / 9 % 6 = 4)) (w1 := di ((c : Int) - 1 - (x / 54 + (k : Int)) % (c : Int))) (w := di (ringH x c k)) ?_ (fun _ => ?_) rfl di_ite (.insertL (k := 0) (i := x / 54 % ((ds.length : Int) + 1)) (w := .dat (encD (ringD x c k))) (.var rfl) ?_ ?_ rfl ?_ ⟨p0, by omega⟩)))), ?_⟩
    · walk_at "ev"
      · decide
      · exact hc0
    · refine .ixG (.call (w := .dat (encD (mkDebt x k c))) (ea_cons (.var rfl) (ea_cons (.var rfl) (ea_cons (.var rfl) ea_nil))) ⟨x, k, c, rfl, h2, h20, hk k List.mem_cons_self, rfl⟩) .int (.tup rfl)
    · walk_at "ev" <;> decide
    · walk_at "ev"
    · refine .mod (.div (.var rfl) .int (by decide)) (.add (.is (.lenG (.var rfl) (.lst (.cel (getL rfl)))) (by rw [lenE])) .int) (by omega)
    · refine .is (w := dt [.int (ringH x c k), .int ((ringH x c k + 1) % (c : Int)), .int (mkDebt x k c).m]) ?_ ?_
      · walk_at "ev"
        exact hc0
      · unfold ringD encD
        dsimp only
        rw [Int.toNat_of_nonneg r0, Int.toNat_of_nonneg b0]
    · rw [lenE]
      omega
    · have q := ring_loop (ns := ns) (f := f) (x := x) h2 h20 (w1 := w1) (w4 := w4) r (ringStep x c ds k) (some (natW k)) (some (di (ringH x c k))) (some (di (mkDebt x k c).m)) (fun j hj => hk j (List.mem_cons_of_mem _ hj)) (by unfold ringStep; rw [insAt_len]; omega)
      have e : ((ringStep x c ds k).map encD).map W.dat = ((encDs ds).map W.dat).take (x / 54 % ((ds.length : Int) + 1)).toNat ++ [.dat (encD (ringD x c k))] ++ ((encDs ds).map W.dat).drop (x / 54 % ((ds.length : Int) + 1)).toNat := by
        unfold ringStep
        rw [insAt_map, List.map_append, List.map_append, List.map_take, List.map_drop] <;> rfl
      have q' := q
      unfold encDs at q'
      rw [e] at q'
      exact q'
theorem big_qdebts (h : T_qdebts M ws o) : BigF K E (t_qdebts K) (args 9 ws) M o := by
  obtain ⟨ns, f, c, rfl, h2, h20, rfl⟩ := h
  have hm := many_ok (cellAt ns 1)
  have hm2 : (many (cellAt ns 1)).toNat ≤ 17 := by omega
  refine .dat (N0 := [.dead]) (.st (w := di (cellAt ns 1)) (.call (ea_cons (.var rfl) (ea_cons .int ea_nil)) ⟨ns, 1, rfl, rfl⟩) (.st (w := di (cellAt ns 1 % 9)) ?_ (.stIf (b := decide (cellAt ns 1 / 9 % 6 = 1)) (w1 := di (9 + cellAt ns 1 / 54 % 9)) (w := di (many (cellAt ns 1))) ?_ (fun _ => ?_) rfl di_ite
    (.seq (s1 := [some (.scr ns), some (di f), some (di c), some (di (cellAt ns 1)), some (di (many (cellAt ns 1))), none, some (.cel (M.length + 0)), none, none]) (M1 := M ++ [.lst ((encDs ((List.range (many (cellAt ns 1)).toNat).map fun k => mkDebt (cellAt ns (f + k)) k c)).map .dat)]) (.asg ?_)
    (.seq (s1 := [some (.scr ns), some (di f), some (di c), some (di (cellAt ns 1)), some (di (many (cellAt ns 1))), none, some (.cel (M.length + 0)), none, none]) (M1 := M ++ [.lst ((encDs (debts ns f c)).map .dat)]) (.ite (b := decide (3 < cellAt ns 1 / 9 % 6)) ?_ (fun q => .forR (M1 := M ++ [.lst ((encDs ((List.range (many (cellAt ns 1)).toNat).map fun k => mkDebt (cellAt ns (f + k)) k c)).map .dat)]) (ea_cons (.var rfl) ea_nil) (by omega) (by omega) ?_) fun q => ?_) (.ret (.frzL (k := 0) (.var rfl) rfl)))))))
  · walk_at "ev"
    decide
  · walk_at "ev" <;> decide
  · walk_at "ev" <;> decide
  · have q := Ev.lcRC1 (K := K) (M := M) (s := [some (.scr ns), some (di f), some (di c), some (di (cellAt ns 1)), some (di (many (cellAt ns 1))), none, none, none, none]) (trA := tCons (tVar 4) tNil) (te := tCall (spOf K T_qdebt) [] E0 (tCons (tCall (spOf K T_qcell_at) [] E0 (tCons (tVar 0) (tCons (tOp xAdd (tVar 1) (tVar 5)) tNil))) (tCons (tVar 5) (tCons (tVar 2) tNil)))) (n := 5) (m := many (cellAt ns 1)) (g := fun k => encD (mkDebt (cellAt ns (f + k)) k c)) (ea_cons (.var rfl) ea_nil) (by omega) (fun k hk => .call (ea_cons (.call (w := di (cellAt ns (f + k))) (ea_cons (.var rfl) (ea_cons (.is (.add (.var rfl) (.var rfl)) (w1 := di ((f + k : Nat) : Int)) (by rw [Int.natCast_add])) ea_nil)) ⟨ns, f + k, rfl, rfl⟩) (ea_cons (.var rfl) (ea_cons (.var rfl) ea_nil))) ⟨_, k, c, rfl, h2, h20, by omega, rfl⟩)
    have e : encDs ((List.range (many (cellAt ns 1)).toNat).map fun k => mkDebt (cellAt ns (f + k)) k c) = (List.range (many (cellAt ns 1)).toNat).map fun k => encD (mkDebt (cellAt ns (f + k)) k c) := by
      unfold encDs
      rw [List.map_map] <;> rfl
    rw [e]
    exact q
  · walk_at "ev" <;> decide
  · have q := of_decide_eq_true q
    have l := ring_loop (K := K) (E := E) (M := M) (ns := ns) (f := f) (x := cellAt ns 1) h2 h20 (w1 := some (di f)) (w4 := some (di (many (cellAt ns 1)))) (List.range c) ((List.range (many (cellAt ns 1)).toNat).map fun k => mkDebt (cellAt ns (f + k)) k c) none none none (fun k hk => by have := List.mem_range.mp hk; omega) (by rw [List.length_map, List.length_range, List.length_range]; omega)
    have e : debts ns f c = (List.range c).foldl (ringStep (cellAt ns 1) c) ((List.range (many (cellAt ns 1)).toNat).map fun k => mkDebt (cellAt ns (f + k)) k c) := by
      unfold debts
      rw [if_pos (decide_eq_true q)]
    rw [e]
    exact l
  · have q := of_decide_eq_false q
    have e : debts ns f c = ((List.range (many (cellAt ns 1)).toNat).map fun k => mkDebt (cellAt ns (f + k)) k c) := by
      unfold debts
      rw [decide_eq_false q, if_neg Bool.false_ne_true]
    rw [e]
    exact .next
abbrev T_qbalances : List Cell → List W → Res → Prop := T_balances
def u_qbalances (K : PySem.W.Frag) : TS := (tSeq (tAsg (tOp xSub (tOp (rIx K) (tVar 2) (tOp (rIx K) (tVar 3) (tC (.int 0)))) (tOp (rIx K) (tVar 3) (tC (.int 2)))) (gSub (tVar 2) (tOp (rIx K) (tVar 3) (tC (.int 0))) rSetL))
    (tAsg (tOp xAdd (tOp (rIx K) (tVar 2) (tOp (rIx K) (tVar 3) (tC (.int 1)))) (tOp (rIx K) (tVar 3) (tC (.int 2)))) (gSub (tVar 2) (tOp (rIx K) (tVar 3) (tC (.int 1))) rSetL)))
def t_qbalances (K : PySem.W.Frag) : TS := (tSeq (tAsg (tLc (iRng1 (tCons (tVar 0) tNil)) (gName 4) tYes (tC (.int 0)) [4]) (gName 2))
    (tSeq (tFor (iList K (tVar 1)) (gName 3) (u_qbalances K))
    (tRet (tVar 2))))
theorem qbal_loop {c D : W} {n : Nat} {s4 : Sl} : ∀ (ds : List Dt) (f : List Int) (x : Sl), (∀ d ∈ ds, d.a < n ∧ d.b < n) → f.length = n →
    ForL K E (gName 3) (u_qbalances K) ((encDs ds).map .dat) [some c, some D, some (.cel (M.length + 0)), x, s4] (M ++ [.lst (f.map di)])
      (.nx [some c, some D, some (.cel (M.length + 0)), none, s4] (M ++ [.lst ((ds.foldl balStep f).map di)]))
  | [], f, x, _, _ => ⟨_, .cons (.inr rfl) (.cons (.inr rfl) (.cons (.inr rfl) (.cons (.inl rfl) (.cons (.inr rfl) .nil)))), rfl⟩
  | d :: r, f, x, h, hf => by
    have h1 := h d List.mem_cons_self
    refine ⟨_, .name (.seq (.setItemL (k := 0) (w := di (f.getD d.a 0 + -d.m)) (i := (d.a : Int)) (n := d.a) ?_ (.var rfl) ?_ rfl ?_) (.setItemL (k := 0) (w := di ((addAt f d.a (-d.m)).getD d.b 0 + d.m)) (i := (d.b : Int)) (n := d.b) ?_ (.var rfl) ?_ rfl ?_)), ?_⟩
    · refine .sub (.ixG (.var rfl) (.ixG (.var rfl) .int (.tup rfl)) (.lst (.cel (getL rfl)) (atI_map (atI_nat (getD_some (by omega)))))) (.ixG (.var rfl) .int (.tup rfl))
    · exact .ixG (.var rfl) .int (.tup rfl)
    · rw [List.length_map]
      exact ixN_nat (by omega)
    · refine .add (.ixG (.var rfl) (.ixG (.var rfl) .int (.tup rfl)) (.lst (.cel (getL rfl)) (by rw [set_map_di]; exact atI_map (atI_nat (getD_some (by rw [List.length_set]; omega)))))) (.ixG (.var rfl) .int (.tup rfl))
    · exact .ixG (.var rfl) .int (.tup rfl)
    · rw [List.length_set, List.length_map]
      exact ixN_nat (by omega)
    · show ForL _ _ _ _ _ _ (M ++ [.lst (((f.map di).set d.a (di _)).set d.b (di _))]) _
      rw [set_map_di, set_map_di]
      exact qbal_loop r (balStep f d) _ (fun e he => h e (List.mem_cons_of_mem _ he)) (by rw [balStep_len]; exact hf)
theorem map_const_range {β : Type} (n : Nat) (x : β) : (List.range n).map (fun _ => x) = List.replicate n x := by
  rw [List.map_const', List.length_range]
theorem big_qbalances (h : T_qbalances M ws o) : BigF K E (t_qbalances K) (args 5 ws) M o := by
  obtain ⟨c, ds, rfl, hc, hd, rfl⟩ := h
  refine .dat (N0 := [.dead]) (.seq (s1 := [some (di c), some (dl (encDs ds)), some (.cel (M.length + 0)), none, none]) (M1 := M ++ [.lst ((List.replicate c 0).map di)]) (.asg ?_) (.seq (s1 := [some (di c), some (dl (encDs ds)), some (.cel (M.length + 0)), none, none]) (M1 := M ++ [.lst ((bal c ds).map di)]) (.forL (.var rfl) ?_) (.ret (.frzL (k := 0) (.var rfl) ?_))))
  · have q := Ev.lcRC1 (K := K) (M := M) (s := args 5 [di c, dl (encDs ds)]) (trA := tCons (tVar 0) tNil) (te := tC (.int 0)) (n := 4) (m := (c : Int)) (g := fun _ => .int 0) (ea_cons (.var rfl) ea_nil) (by omega) fun k hk => .int
    rw [map_const_range, List.map_replicate] at q
    rw [List.map_replicate]
    exact q
  · exact qbal_loop (c := di c) (D := dl (encDs ds)) (n := c) ds (List.replicate c 0) none hd List.length_replicate
  · rw [map_dat_ints] <;> rfl
/-- the law's look at a list of numbers that is as due -/
def T_qnumbers (M : List Cell) (ws : List W) (o : Res) : Prop := ∃ ns : List Int, ws = [dl (ns.map .int), dl (ns.map .int)] ∧ o = .ret (db true) M
def u_qnumbers (K : PySem.W.Frag) : TS := (tIfS (tNot (tB (tCall (spOf K T_qwhole) [] E0 (tCons (tVar 2) tNil)))) (tRet (tC (.bl false))) tNext)
def t_qnumbers (K : PySem.W.Frag) : TS := (tSeq (tIfS (tOr (tNot (tB (tCB (rIsi K) (tCons (tVar 0) (tCons (tC (.ty "list")) tNil))))) (tTest (tOp rNe (tCB (rLenX K) (tCons (tVar 0) tNil)) (tCB (rLenX K) (tCons (tVar 1) tNil))))) (tRet (tC (.bl false))) tNext)
    (tSeq (tFor (iList K (tVar 0)) (gName 2) (u_qnumbers K))
    (tRet (tOp (rEqD K) (tVar 0) (tVar 1)))))
theorem num_loop {a b : Sl} : ∀ (ns : List Int) (x : Sl), ForL K E (gName 2) (u_qnumbers K) ((ns.map PyData.int).map .dat) [a, b, x] M (.nx [a, b, none] M)
  | [], x => ⟨_, .cons (.inr rfl) (.cons (.inr rfl) (.cons (.inl rfl) .nil)), rfl⟩
  | n :: r, x => ⟨_, .name (.ite (b := false) (.not (.val (.call (w := db true) (ea_cons (.var rfl) ea_nil) ⟨_, rfl, rfl⟩))) (fun z => nomatch z) fun _ => .next), num_loop r _⟩
theorem big_qnumbers (h : T_qnumbers M ws o) : BigF K E (t_qnumbers K) (args 3 ws) M o := by
  obtain ⟨ns, rfl, rfl⟩ := h
  have ht : EvB K (tNot (tB (tCB (rIsi K) (tCons (tVar 0) (tCons (tC (.ty "list")) tNil))))) (args 3 [dl (ns.map .int), dl (ns.map .int)]) M (!true) M := by
    walk_at "ev"
    exact kit_lst _
  refine .rt (.seqIte (b := !true || !decide ((ns.length : Int) = ns.length)) (.or ht fun _ => ?_) (fun z => by simp at z) fun _ => .seqN (.seq (s1 := [some (dl (ns.map .int)), some (dl (ns.map .int)), none]) (M1 := M) (.forL (.var rfl) (num_loop ns none)) (.ret (.eqP 1 (.var rfl) (.var rfl) (.dat _) (.dat _) (by decide) (pI_ints ns) (pI_ints ns) (by simp)))))
  walk_at "ev"
end
end Bk

set_option Elab.async false
set_option linter.all false
set_option maxRecDepth 100000
set_option maxHeartbeats 4000000
/-! M04: the mathematics of taking houses away, and of walking rings -/
namespace Bk
/-- h owes to a house that is not gone -/
def hasOut (ds : List Dt) (g : List Nat) (h : Nat) : Bool := ds.any fun d => decide (d.a = h) && !decide (d.b ∈ g)
def puStep (ds : List Dt) (st : List Nat × Bool) (h : Nat) : List Nat × Bool := if (!decide (h ∈ st.1) && !hasOut ds st.1 h) = true then (st.1 ++ [h], true) else st
def puPass (ds : List Dt) (c : Nat) (g : List Nat) : List Nat × Bool := (List.range c).foldl (puStep ds) (g, false)
def puGo (ds : List Dt) (c : Nat) : Nat → List Nat → List Nat
  | 0, g => g
  | n + 1, g => if (puPass ds c g).2 = true then puGo ds c n (puPass ds c g).1 else (puPass ds c g).1
def paidUp (c : Nat) (ds : List Dt) : List Nat := puGo ds c (c + 1) []
/-- what holds of the houses that are gone -/
structure PuOk (ds : List Dt) (c : Nat) (g : List Nat) : Prop where
  nd : g.Nodup
  lt : ∀ h ∈ g, h < c
  /-- each house's creditors stand ahead of it -/
  ord : ∀ d ∈ ds, ∀ (l r : List Nat), g = l ++ d.a :: r → d.b ∈ l
theorem nodup_snoc' {l : List Nat} {x : Nat} (h : l.Nodup) (hx : x ∉ l) : (l ++ [x]).Nodup := by
  rw [List.nodup_append]
  exact ⟨h, by simp, fun a ha b hb => by
    rw [List.mem_singleton.mp hb]
    exact fun z => hx (z ▸ ha)⟩
theorem PuOk.nil (ds : List Dt) (c : Nat) : PuOk ds c [] := ⟨List.nodup_nil, (fun _ h => nomatch h), fun d _ l r e => by
  cases l <;> cases e⟩
theorem append_snoc_cases {α : Type} {g : List α} {x y : α} {l r : List α} (e : g ++ [x] = l ++ y :: r) : (r = [] ∧ y = x ∧ l = g) ∨ ∃ r', r = r' ++ [x] ∧ g = l ++ y :: r' := by
  rcases List.eq_nil_or_concat r with rfl | ⟨r', z, rfl⟩
  · left
    have h := List.append_inj' (s₁ := g) (t₁ := [x]) (s₂ := l) (t₂ := [y]) e rfl
    exact ⟨rfl, (List.cons.inj h.2).1.symm, h.1.symm⟩
  · right
    have e2 : g ++ [x] = (l ++ y :: r') ++ [z] := by rw [e]; simp
    have h := List.append_inj' e2 rfl
    exact ⟨r', by rw [(List.cons.inj h.2).1, List.concat_eq_append], h.1⟩
theorem PuOk.step {ds : List Dt} {c : Nat} {st : List Nat × Bool} {h : Nat} (k : PuOk ds c st.1) (hc : h < c) : PuOk ds c (puStep ds st h).1 := by
  unfold puStep
  split
  · rename_i q
    rw [Bool.and_eq_true, Bool.not_eq_true', Bool.not_eq_true', decide_eq_false_iff_not] at q
    refine ⟨nodup_snoc' k.nd q.1, fun x hx => ?_, fun d hd l r e => ?_⟩
    · rcases List.mem_append.mp hx with hx | hx
      · exact k.lt x hx
      · rw [List.mem_singleton.mp hx]
        exact hc
    · rcases append_snoc_cases e with ⟨_, e2, e3⟩ | ⟨r', _, e2⟩
      · rw [e3]
        have z := q.2
        unfold hasOut at z
        rw [List.any_eq_false] at z
        have z2 := z d hd
        rw [e2, decide_eq_true rfl, Bool.true_and, Bool.not_eq_true, Bool.not_eq_false', decide_eq_true_eq] at z2
        exact z2
      · exact k.ord d hd l r' e2
  · exact k
theorem pu_fold {ds : List Dt} {c : Nat} : ∀ (l : List Nat) (st : List Nat × Bool), (∀ h ∈ l, h < c) → PuOk ds c st.1 → PuOk ds c (l.foldl (puStep ds) st).1 ∧
    ((l.foldl (puStep ds) st).2 = true → st.2 = true ∨ st.1.length < (l.foldl (puStep ds) st).1.length) ∧ st.1.length ≤ (l.foldl (puStep ds) st).1.length ∧
    ((l.foldl (puStep ds) st).2 = false → (l.foldl (puStep ds) st).1 = st.1 ∧ st.2 = false ∧ ∀ h ∈ l, h ∈ st.1 ∨ hasOut ds st.1 h = true)
  | [], st, _, k => ⟨k, fun h => .inl h, Nat.le_refl _, fun h => ⟨rfl, h, fun _ h => nomatch h⟩⟩
  | x :: r, st, hl, k => by
    have k1 := k.step (h := x) (hl x List.mem_cons_self)
    obtain ⟨a1, a2, a3, a4⟩ := pu_fold (c := c) r (puStep ds st x) (fun h hh => hl h (List.mem_cons_of_mem _ hh)) k1
    rw [List.foldl_cons]
    by_cases q : (!decide (x ∈ st.1) && !hasOut ds st.1 x) = true
    · have e : puStep ds st x = (st.1 ++ [x], true) := by unfold puStep; rw [if_pos q]
      rw [e] at a1 a2 a3 a4 ⊢
      have e3 : (st.1 ++ [x]).length = st.1.length + 1 := by simp
      dsimp only at a3
      rw [e3] at a3
      exact ⟨a1, fun _ => .inr (by omega), by omega, fun h => by
        have := (a4 h).2.1
        cases this⟩
    · have e : puStep ds st x = st := by unfold puStep; rw [if_neg q]
      rw [e] at a1 a2 a3 a4 ⊢
      refine ⟨a1, a2, a3, fun h => ?_⟩
      obtain ⟨b1, b2, b3⟩ := a4 h
      refine ⟨b1, b2, fun y hy => ?_⟩
      rcases List.mem_cons.mp hy with rfl | hy
      · by_cases z : y ∈ st.1
        · exact .inl z
        · rw [decide_eq_false z, Bool.not_false, Bool.true_and] at q
          exact .inr (by simpa using q)
      · exact b3 y hy
theorem nodup_sub {α : Type} [BEq α] [LawfulBEq α] : ∀ {l m : List α}, l.Nodup → (∀ x ∈ l, x ∈ m) → l.length ≤ m.length
  | [], _, _, _ => Nat.zero_le _
  | a :: t, m, nd, h => by
    obtain ⟨h1, h2⟩ := List.nodup_cons.mp nd
    have ha := h a List.mem_cons_self
    have q := nodup_sub (m := m.erase a) h2 fun x hx => (List.mem_erase_of_ne (fun z : x = a => h1 (z ▸ hx))).mpr (h x (List.mem_cons_of_mem _ hx))
    have e := List.length_erase_of_mem ha
    have p := List.length_pos_of_mem ha
    rw [List.length_cons]
    omega
theorem nodup_le {c : Nat} {g : List Nat} (nd : g.Nodup) (lt : ∀ h ∈ g, h < c) : g.length ≤ c := by
  have h := nodup_sub (m := List.range c) nd (fun x hx => List.mem_range.mpr (lt x hx))
  rw [List.length_range] at h
  exact h
/-- at rest: each house is gone, or owes to one that is not -/
theorem puGo_ok {ds : List Dt} {c : Nat} : ∀ (n : Nat) (g : List Nat), PuOk ds c g → c < n + g.length → PuOk ds c (puGo ds c n g) ∧ ∀ h, h < c → h ∈ puGo ds c n g ∨ hasOut ds (puGo ds c n g) h = true
  | 0, g, k, hn => by
    have := nodup_le k.nd k.lt
    omega
  | n + 1, g, k, hn => by
    obtain ⟨a1, a2, a3, a4⟩ := pu_fold (c := c) (List.range c) (g, false) (fun h hh => List.mem_range.mp hh) k
    unfold puGo
    by_cases q : (puPass ds c g).2 = true
    · rw [if_pos q]
      have hlt : g.length < (puPass ds c g).1.length := (a2 q).resolve_left (fun z => nomatch z)
      exact puGo_ok n _ a1 (by omega)
    · rw [if_neg q]
      have q' : (puPass ds c g).2 = false := by simpa using q
      obtain ⟨b1, _, b3⟩ := a4 q'
      have b1 : (puPass ds c g).1 = g := b1
      rw [b1]
      exact ⟨k, fun h hh => b3 h (List.mem_range.mpr hh)⟩
theorem paidUp_ok (c : Nat) (ds : List Dt) : PuOk ds c (paidUp c ds) ∧ ∀ h, h < c → h ∈ paidUp c ds ∨ hasOut ds (paidUp c ds) h = true := puGo_ok (c + 1) [] (PuOk.nil ds c) (by simp)
end Bk

set_option Elab.async false
set_option linter.all false
set_option maxRecDepth 100000
set_option maxHeartbeats 4000000
/-! M05: walking along debts till a house is met again -/
namespace Bk
def d0 : Dt := ⟨0, 0, 0⟩
def dA (ds : List Dt) (n : Nat) : Nat := (ds.getD n d0).a
def dB (ds : List Dt) (n : Nat) : Nat := (ds.getD n d0).b
def dM (ds : List Dt) (n : Nat) : Int := (ds.getD n d0).m
def outOf (ds : List Dt) (nums : List Nat) (h : Nat) : Nat := (nums.filter fun n => decide (dA ds n = h)).getD 0 0
def walkEnd (ds : List Dt) (nums : List Nat) : Nat → List Nat → Nat → List Nat × Nat
  | 0, way, h => (way, h)
  | n + 1, way, h => if h ∈ way.map (dA ds) then (way, h) else walkEnd ds nums n (way ++ [outOf ds nums h]) (dB ds (outOf ds nums h))
def walkR (ds : List Dt) (nums : List Nat) (h : Nat) : List Nat := (walkEnd ds nums 21 [] h).1.drop (((walkEnd ds nums 21 [] h).1.map (dA ds)).idxOf (walkEnd ds nums 21 [] h).2)
/-- numbers of debts that can be walked along -/
structure Nums (c : Nat) (ds : List Dt) (nums : List Nat) : Prop where
  lt : ∀ n ∈ nums, n < ds.length
  a : ∀ n ∈ nums, dA ds n < c
  cl : ∀ n ∈ nums, ∃ m ∈ nums, dA ds m = dB ds n
structure WayOk (c : Nat) (ds : List Dt) (nums way : List Nat) (h : Nat) : Prop where
  mem : ∀ n ∈ way, n ∈ nums
  nd : (way.map (dA ds)).Nodup
  ln : ∀ k, k + 1 < way.length → dB ds (way.getD k 0) = dA ds (way.getD (k + 1) 0)
  en : 0 < way.length → dB ds (way.getD (way.length - 1) 0) = h
  ou : ∃ n ∈ nums, dA ds n = h
/-- a ring -/
structure IsRing (ds : List Dt) (nums r : List Nat) : Prop where
  pos : 0 < r.length
  mem : ∀ n ∈ r, n ∈ nums
  nd : (r.map (dA ds)).Nodup
  ln : ∀ k, k + 1 < r.length → dB ds (r.getD k 0) = dA ds (r.getD (k + 1) 0)
  en : dB ds (r.getD (r.length - 1) 0) = dA ds (r.getD 0 0)
section
variable {c : Nat} {ds : List Dt} {nums way : List Nat} {h : Nat}
theorem outOf_ok (k : ∃ n ∈ nums, dA ds n = h) : outOf ds nums h ∈ nums ∧ dA ds (outOf ds nums h) = h ∧ (nums.filter fun n => decide (dA ds n = h))[0]? = some (outOf ds nums h) := by
  obtain ⟨n, hn, ha⟩ := k
  have hm : n ∈ nums.filter fun n => decide (dA ds n = h) := List.mem_filter.mpr ⟨hn, decide_eq_true ha⟩
  unfold outOf
  cases e : nums.filter fun n => decide (dA ds n = h) with
  | nil => rw [e] at hm; cases hm
  | cons x r =>
    have hx : x ∈ nums.filter fun n => decide (dA ds n = h) := by rw [e]; exact List.mem_cons_self
    obtain ⟨h1, h2⟩ := List.mem_filter.mp hx
    exact ⟨h1, of_decide_eq_true h2, rfl⟩
theorem getD_snoc_lt {l : List Nat} {x k : Nat} (hk : k < l.length) : (l ++ [x]).getD k 0 = l.getD k 0 := by
  rw [List.getD_eq_getElem?_getD, List.getD_eq_getElem?_getD, List.getElem?_append_left hk]
theorem getD_snoc_eq {l : List Nat} {x : Nat} : (l ++ [x]).getD l.length 0 = x := by
  rw [List.getD_eq_getElem?_getD, List.getElem?_append_right (Nat.le_refl _), Nat.sub_self] <;> rfl
theorem WayOk.step (N : Nums c ds nums) (w : WayOk c ds nums way h) (hn : h ∉ way.map (dA ds)) : WayOk c ds nums (way ++ [outOf ds nums h]) (dB ds (outOf ds nums h)) := by
  obtain ⟨o1, o2, _⟩ := outOf_ok w.ou
  refine ⟨fun n hm => ?_, ?_, fun k hk => ?_, fun _ => ?_, N.cl _ o1⟩
  · rcases List.mem_append.mp hm with hm | hm
    · exact w.mem n hm
    · rw [List.mem_singleton.mp hm]
      exact o1
  · rw [List.map_append]
    show (way.map (dA ds) ++ [dA ds (outOf ds nums h)]).Nodup
    rw [o2]
    exact nodup_snoc' w.nd hn
  · rw [List.length_append, List.length_singleton] at hk
    rw [getD_snoc_lt (by omega)]
    by_cases e : k + 1 < way.length
    · rw [getD_snoc_lt e]
      exact w.ln k e
    · have e2 : k + 1 = way.length := by omega
      rw [e2, getD_snoc_eq, o2]
      have := w.en (by omega)
      rw [← e2, Nat.add_sub_cancel] at this
      exact this
  · rw [List.length_append, List.length_singleton, Nat.add_sub_cancel, getD_snoc_eq]
theorem walkEnd_ok (N : Nums c ds nums) : ∀ (n : Nat) (way : List Nat) (h : Nat), WayOk c ds nums way h → c < n + way.length → WayOk c ds nums (walkEnd ds nums n way h).1 (walkEnd ds nums n way h).2 ∧ (walkEnd ds nums n way h).2 ∈ (walkEnd ds nums n way h).1.map (dA ds)
  | 0, way, h, w, hl => by
    have h1 := nodup_le (c := c) w.nd fun x hx => by
      obtain ⟨n, hn, rfl⟩ := List.mem_map.mp hx
      exact N.a n (w.mem n hn)
    rw [List.length_map] at h1
    omega
  | n + 1, way, h, w, hl => by
    unfold walkEnd
    by_cases e : h ∈ way.map (dA ds)
    · rw [if_pos e]
      exact ⟨w, e⟩
    · rw [if_neg e]
      exact walkEnd_ok N n _ _ (w.step N e) (by rw [List.length_append, List.length_singleton]; omega)
theorem getD_drop {l : List Nat} {i k : Nat} : (l.drop i).getD k 0 = l.getD (i + k) 0 := by
  rw [List.getD_eq_getElem?_getD, List.getD_eq_getElem?_getD, List.getElem?_drop]
theorem WayOk.ring (w : WayOk c ds nums way h) {i : Nat} (hi : (way.map (dA ds))[i]? = some h) : IsRing ds nums (way.drop i) := by
  rw [List.getElem?_map] at hi
  have hlt : i < way.length := by
    cases e : way[i]? with
    | none => rw [e] at hi; cases hi
    | some x => exact (List.getElem?_eq_some_iff.mp e).1
  refine ⟨by rw [List.length_drop]; omega, fun n hn => w.mem n (List.mem_of_mem_drop hn), ?_, fun k hk => ?_, ?_⟩
  · rw [List.map_drop]
    exact w.nd.sublist (List.drop_sublist _ _)
  · rw [List.length_drop] at hk
    rw [getD_drop, getD_drop]
    exact w.ln (i + k) (by omega)
  · rw [getD_drop, getD_drop, List.length_drop, show i + (way.length - i - 1) = way.length - 1 by omega, w.en (by omega), Nat.add_zero]
    rw [List.getElem?_eq_getElem hlt] at hi
    rw [List.getD_eq_getElem?_getD, List.getElem?_eq_getElem hlt]
    exact (Option.some.inj hi).symm
theorem way0 (hs : ∃ n ∈ nums, dA ds n = h) : WayOk c ds nums [] h := ⟨(fun _ z => nomatch z), List.nodup_nil, (fun _ z => nomatch z), (fun z => nomatch z), hs⟩
theorem idx_get {l : List Nat} {x : Nat} (hm : x ∈ l) : l[l.idxOf x]? = some x := by
  have h := List.idxOf_lt_length_of_mem hm
  rw [List.getElem?_eq_getElem h, List.getElem_idxOf]
theorem walkR_ok (N : Nums c ds nums) (hc : c ≤ 20) (hs : ∃ n ∈ nums, dA ds n = h) : IsRing ds nums (walkR ds nums h) := by
  obtain ⟨h1, h2⟩ := walkEnd_ok N 21 [] h (way0 hs) (by simp; omega)
  exact h1.ring (idx_get h2)
end
/-! ring, order -/
def ringNums (c : Nat) (ds : List Dt) : List Nat := (List.range ds.length).filter fun n => !decide (dA ds n ∈ paidUp c ds) && !decide (dB ds n ∈ paidUp c ds)
def ringR (c : Nat) (ds : List Dt) : List Nat := walkR ds (ringNums c ds) (dA ds ((ringNums c ds).getD 0 0))
theorem mem_getD {ds : List Dt} {d : Dt} (h : d ∈ ds) : ∃ n, n < ds.length ∧ ds.getD n d0 = d := by
  obtain ⟨n, hn, rfl⟩ := List.getElem_of_mem h
  exact ⟨n, hn, by rw [List.getD_eq_getElem?_getD, List.getElem?_eq_getElem hn] <;> rfl⟩
theorem getD_mem {ds : List Dt} {n : Nat} (h : n < ds.length) : ds.getD n d0 ∈ ds := by
  rw [List.getD_eq_getElem?_getD, List.getElem?_eq_getElem h]
  exact List.getElem_mem h
theorem ringNums_out {c : Nat} {ds : List Dt} (hb : ∀ d ∈ ds, d.a < c ∧ d.b < c) {h : Nat} (hh : h < c) (hg : h ∉ paidUp c ds) : ∃ n ∈ ringNums c ds, dA ds n = h := by
  have q := ((paidUp_ok c ds).2 h hh).resolve_left hg
  unfold hasOut at q
  obtain ⟨d, hd, q⟩ := List.any_eq_true.mp q
  rw [Bool.and_eq_true, decide_eq_true_eq, Bool.not_eq_true', decide_eq_false_iff_not] at q
  obtain ⟨n, hn, e⟩ := mem_getD hd
  have ea : dA ds n = h := by unfold dA; rw [e, q.1]
  have eb : dB ds n = d.b := by unfold dB; rw [e]
  refine ⟨n, List.mem_filter.mpr ⟨List.mem_range.mpr hn, ?_⟩, ea⟩
  rw [ea, eb, decide_eq_false hg, decide_eq_false q.2] <;> rfl
theorem ringNums_ok {c : Nat} {ds : List Dt} (hb : ∀ d ∈ ds, d.a < c ∧ d.b < c) : Nums c ds (ringNums c ds) := by
  refine ⟨fun n hn => List.mem_range.mp (List.mem_filter.mp hn).1, fun n hn => (hb _ (getD_mem (List.mem_range.mp (List.mem_filter.mp hn).1))).1, fun n hn => ?_⟩
  obtain ⟨h1, h2⟩ := List.mem_filter.mp hn
  rw [Bool.and_eq_true, Bool.not_eq_true', Bool.not_eq_true', decide_eq_false_iff_not, decide_eq_false_iff_not] at h2
  exact ringNums_out hb (hb _ (getD_mem (List.mem_range.mp h1))).2 h2.2
theorem ringNums_pos {c : Nat} {ds : List Dt} (hb : ∀ d ∈ ds, d.a < c ∧ d.b < c) (hl : (paidUp c ds).length < c) : 0 < (ringNums c ds).length := by
  have : ∃ h, h < c ∧ h ∉ paidUp c ds := by
    by_cases q : ∃ h, h < c ∧ h ∉ paidUp c ds
    · exact q
    · exfalso
      have := nodup_sub (l := List.range c) (m := paidUp c ds) List.nodup_range fun x hx => by
        by_cases z : x ∈ paidUp c ds
        · exact z
        · exact absurd ⟨x, List.mem_range.mp hx, z⟩ q
      rw [List.length_range] at this
      omega
  obtain ⟨h, h1, h2⟩ := this
  obtain ⟨n, hn, _⟩ := ringNums_out hb h1 h2
  exact List.length_pos_of_mem hn
theorem getD_memN {l : List Nat} {n : Nat} (h : n < l.length) : l.getD n 0 ∈ l := by
  rw [List.getD_eq_getElem?_getD, List.getElem?_eq_getElem h]
  exact List.getElem_mem h
theorem ringR_ok {c : Nat} {ds : List Dt} (hc : c ≤ 20) (hb : ∀ d ∈ ds, d.a < c ∧ d.b < c) (hl : (paidUp c ds).length < c) : IsRing ds (ringNums c ds) (ringR c ds) :=
  walkR_ok (ringNums_ok hb) hc ⟨_, getD_memN (ringNums_pos hb hl), rfl⟩
/-- an order: all houses, each once, each debt from a house to a later one -/
structure IsOrder (c : Nat) (ds : List Dt) (o : List Nat) : Prop where
  pm : o.Perm (List.range c)
  lt : ∀ d ∈ ds, ∃ i j : Nat, i < j ∧ o[i]? = some d.a ∧ o[j]? = some d.b
theorem paid_le (c : Nat) (ds : List Dt) : (paidUp c ds).length ≤ c := nodup_le (paidUp_ok c ds).1.nd (paidUp_ok c ds).1.lt
theorem order_ok {c : Nat} {ds : List Dt} (hb : ∀ d ∈ ds, d.a < c ∧ d.b < c) (hl : ¬ (paidUp c ds).length < c) : IsOrder c ds (paidUp c ds).reverse := by
  obtain ⟨k, _⟩ := paidUp_ok c ds
  have hall : ∀ h, h < c → h ∈ paidUp c ds := by
    intro h hh
    by_cases z : h ∈ paidUp c ds
    · exact z
    · exfalso
      have := nodup_sub (l := h :: paidUp c ds) (m := List.range c) (List.nodup_cons.mpr ⟨z, k.nd⟩) fun x hx => by
        rcases List.mem_cons.mp hx with rfl | hx
        · exact List.mem_range.mpr hh
        · exact List.mem_range.mpr (k.lt x hx)
      rw [List.length_range, List.length_cons] at this
      omega
  constructor
  · refine (List.reverse_perm _).trans ?_
    rw [List.perm_ext_iff_of_nodup k.nd List.nodup_range]
    exact fun x => ⟨fun hx => List.mem_range.mpr (k.lt x hx), fun hx => hall x (List.mem_range.mp hx)⟩
  · intro d hd
    obtain ⟨l, r, e⟩ := List.append_of_mem (hall d.a (hb d hd).1)
    obtain ⟨p, q, e2⟩ := List.append_of_mem (k.ord d hd l r e)
    refine ⟨r.length, r.length + 1 + q.length, by omega, ?_, ?_⟩
    · rw [e, List.reverse_append, List.reverse_cons, List.append_assoc, List.getElem?_append_right (by rw [List.length_reverse]; omega), List.length_reverse, Nat.sub_self] <;> rfl
    · rw [e, e2, List.reverse_append, List.reverse_cons, List.append_assoc, List.getElem?_append_right (by rw [List.length_reverse]; omega), List.length_reverse, show r.length + 1 + q.length - r.length = q.length + 1 by omega]
      show (d.a :: (p ++ d.b :: q).reverse)[q.length + 1]? = _
      rw [List.getElem?_cons_succ, List.reverse_append, List.reverse_cons, List.append_assoc, List.getElem?_append_right (by rw [List.length_reverse]; omega), List.length_reverse, Nat.sub_self] <;> rfl
/-- the debts of a book without a ring, or with one debt turned -/
def riseD (sp : Int) (k : Nat) (d : Dt) : Dt := if decide (d.b < d.a) = decide ((k : Int) = sp) then d else ⟨d.b, d.a, d.m⟩
def rises (ds : List Dt) (sp : Int) : List Dt := (List.range ds.length).map fun k => riseD sp k (ds.getD k d0)
theorem rises_ok {c : Nat} {ds : List Dt} {sp : Int} (h : Book c ds) : Book c (rises ds sp) := by
  refine ⟨h.lo, h.hi, by unfold rises; rw [List.length_map, List.length_range]; exact h.len, fun d hd => ?_⟩
  obtain ⟨k, hk, rfl⟩ := List.mem_map.mp hd
  have q := h.ok _ (getD_mem (List.mem_range.mp hk))
  unfold riseD
  split
  · exact q
  · exact ⟨q.b, q.a, fun e => q.ne e.symm, q.lo, q.hi⟩
end Bk

set_option Elab.async false
set_option linter.all false
set_option maxRecDepth 100000
set_option maxHeartbeats 4000000
/-! M06: cuts, what a house gains by a cut, rings -/
namespace Bk
/-- 1 at one house -/
def at1 (x h : Nat) : Int := if x = h then 1 else 0
/-- what a house gains by a cut of f off the debts -/
def gain (ds : List Dt) (f : Nat → Int) (h : Nat) : Int := ((List.range ds.length).map fun n => f n * (at1 (dB ds n) h - at1 (dA ds n) h)).sum
theorem sum_add {α : Type} (f g : α → Int) : ∀ l : List α, (l.map fun n => f n + g n).sum = (l.map f).sum + (l.map g).sum
  | [] => rfl
  | x :: l => by
    rw [List.map_cons, List.map_cons, List.map_cons, List.sum_cons, List.sum_cons, List.sum_cons, sum_add f g l]
    omega
theorem sum_mul {α : Type} (k : Int) (f : α → Int) : ∀ l : List α, (l.map fun n => k * f n).sum = k * (l.map f).sum
  | [] => by simp
  | x :: l => by
    rw [List.map_cons, List.map_cons, List.sum_cons, List.sum_cons, sum_mul k f l, Int.mul_add]
theorem sum_zero {α : Type} {f : α → Int} : ∀ {l : List α}, (∀ n ∈ l, f n = 0) → (l.map f).sum = 0
  | [], _ => rfl
  | x :: l, h => by
    rw [List.map_cons, List.sum_cons, h x List.mem_cons_self, sum_zero fun n hn => h n (List.mem_cons_of_mem _ hn)]
    rfl
theorem sum_congr {α : Type} {f g : α → Int} {l : List α} (h : ∀ n ∈ l, f n = g n) : (l.map f).sum = (l.map g).sum := by rw [List.map_congr_left h]
theorem gain_add {ds : List Dt} {f g : Nat → Int} {h : Nat} : gain ds (fun n => f n + g n) h = gain ds f h + gain ds g h := by
  unfold gain
  rw [← sum_add]
  exact sum_congr fun n _ => by rw [Int.add_mul]
theorem gain_mul {ds : List Dt} {k : Int} {f : Nat → Int} {h : Nat} : gain ds (fun n => k * f n) h = k * gain ds f h := by
  unfold gain
  rw [← sum_mul]
  exact sum_congr fun n _ => by rw [Int.mul_assoc]
theorem gain_congr {ds : List Dt} {f g : Nat → Int} {h : Nat} (e : ∀ n, n < ds.length → f n = g n) : gain ds f h = gain ds g h := by
  unfold gain
  exact sum_congr fun n hn => by rw [e n (List.mem_range.mp hn)]
theorem gain_zero {ds : List Dt} {h : Nat} : gain ds (fun _ => 0) h = 0 := by
  unfold gain
  exact sum_zero fun n _ => by rw [Int.zero_mul]
/-- how often n stands in r -/
def inR (r : List Nat) (n : Nat) : Int := (r.count n : Int)
/-- a sum over a list, number by number -/
theorem sum_count {g : Nat → Int} {m : Nat} : ∀ {r : List Nat}, (∀ n ∈ r, n < m) → ((List.range m).map fun n => inR r n * g n).sum = (r.map g).sum
  | [], _ => by
    refine sum_zero fun n _ => ?_
    unfold inR
    simp
  | x :: r, h => by
    have ih := sum_count (g := g) (m := m) (r := r) fun n hn => h n (List.mem_cons_of_mem _ hn)
    have one : ∀ m, x < m → ((List.range m).map fun n => (if n = x then 1 else 0) * g n).sum = g x := by
      intro m
      induction m with
      | zero => intro hm; omega
      | succ m ihm =>
        intro hm
        rw [List.range_succ, List.map_append, List.sum_append, List.map_singleton, List.sum_singleton]
        by_cases e : x = m
        · subst e
          rw [sum_zero (f := fun n => (if n = x then 1 else 0) * g n) fun n hn => by
            have := List.mem_range.mp hn
            rw [if_neg (by omega), Int.zero_mul]]
          rw [if_pos rfl]
          omega
        · rw [ihm (by omega), if_neg (fun z => e z.symm)]
          omega
    rw [List.map_cons, List.sum_cons, ← ih, ← one m (h x List.mem_cons_self), ← sum_add]
    refine sum_congr fun n _ => ?_
    unfold inR
    rw [List.count_cons]
    by_cases e : n = x
    · subst e
      rw [if_pos rfl]
      simp only [beq_self_eq_true, if_true]
      rw [Int.natCast_add, Int.add_mul]
      omega
    · rw [if_neg e]
      have e' : ¬ x = n := fun z => e z.symm
      simp [e']
/-- in a ring each house gives as much as it takes -/
theorem ring_ab {ds : List Dt} {nums r : List Nat} (R : IsRing ds nums r) : ∀ g : Nat → Int, (r.map fun n => g (dB ds n)).sum = (r.map fun n => g (dA ds n)).sum := by
  intro g
  have key : ∀ (k : Nat), k < r.length → ((r.take (k + 1)).map fun n => g (dA ds n)).sum - ((r.take k).map fun n => g (dB ds n)).sum = g (dA ds (r.getD 0 0)) := by
    intro k
    induction k with
    | zero =>
      intro hk
      cases r with
      | nil => cases hk
      | cons x r => simp
    | succ k ih =>
      intro hk
      have h1 := ih (by omega)
      have e1 : r.take (k + 1 + 1) = r.take (k + 1) ++ [r.getD (k + 1) 0] := by
        rw [List.take_add_one, List.getD_eq_getElem?_getD, List.getElem?_eq_getElem hk] <;> rfl
      have e2 : r.take (k + 1) = r.take k ++ [r.getD k 0] := by
        rw [List.take_add_one, List.getD_eq_getElem?_getD, List.getElem?_eq_getElem (show k < r.length by omega)] <;> rfl
      rw [e1, List.map_append, List.sum_append, List.map_singleton, List.sum_singleton]
      have e3 : ((r.take (k + 1)).map fun n => g (dB ds n)).sum = ((r.take k).map fun n => g (dB ds n)).sum + g (dB ds (r.getD k 0)) := by
        rw [e2, List.map_append, List.sum_append, List.map_singleton, List.sum_singleton]
      rw [e3, ← R.ln k hk]
      omega
  have hp := R.pos
  have h := key (r.length - 1) (by omega)
  rw [show r.length - 1 + 1 = r.length by omega, List.take_length] at h
  have e2 : r = r.take (r.length - 1) ++ [r.getD (r.length - 1) 0] := by
    have : r.take (r.length - 1 + 1) = r.take (r.length - 1) ++ [r.getD (r.length - 1) 0] := by
      rw [List.take_add_one, List.getD_eq_getElem?_getD, List.getElem?_eq_getElem (show r.length - 1 < r.length by omega)] <;> rfl
    rw [show r.length - 1 + 1 = r.length by omega, List.take_length] at this
    exact this
  have e3 : (r.map fun n => g (dB ds n)).sum = ((r.take (r.length - 1)).map fun n => g (dB ds n)).sum + g (dB ds (r.getD (r.length - 1) 0)) := by
    conv => lhs; rw [e2]
    rw [List.map_append, List.sum_append, List.map_singleton, List.sum_singleton]
  rw [e3, R.en]
  omega
theorem sum_sub {α : Type} (f g : α → Int) (l : List α) : (l.map fun n => f n - g n).sum = (l.map f).sum - (l.map g).sum := by
  have h := sum_add f (fun n => -1 * g n) l
  rw [sum_mul] at h
  rw [show (l.map fun n => f n - g n) = l.map fun n => f n + -1 * g n from List.map_congr_left fun n _ => by omega, h]
  omega
theorem gain_ring {ds : List Dt} {nums r : List Nat} (R : IsRing ds nums r) (hn : ∀ n ∈ nums, n < ds.length) (h : Nat) : gain ds (inR r) h = 0 := by
  unfold gain
  rw [sum_count fun n hr => hn n (R.mem n hr), sum_sub, ring_ab R fun x => at1 x h]
  omega
theorem inR_one {r : List Nat} {n : Nat} (nd : r.Nodup) : inR r n = if n ∈ r then 1 else 0 := by
  unfold inR
  by_cases e : n ∈ r
  · rw [if_pos e, nd.count, if_pos e] <;> rfl
  · rw [if_neg e, List.count_eq_zero_of_not_mem e] <;> rfl
theorem IsRing.nodup {ds : List Dt} {nums r : List Nat} (R : IsRing ds nums r) : r.Nodup := by
  have h := R.nd
  unfold List.Nodup at h ⊢
  rw [List.pairwise_map] at h
  exact h.imp fun q e => q (by rw [e])

/-! ### cuts -/
/-- a cut of these debts -/
structure CutOk (ds : List Dt) (f : List Int) : Prop where
  len : f.length = ds.length
  lo : ∀ n, n < ds.length → 0 ≤ f.getD n 0
  hi : ∀ n, n < ds.length → f.getD n 0 ≤ dM ds n
def withCut (ds : List Dt) (f : List Int) : List Dt := (List.range ds.length).map fun n => ⟨dA ds n, dB ds n, f.getD n 0⟩
/-- the balances, house by house -/
theorem getD_set_eq {f : List Int} {i h : Nat} {x : Int} : (f.set i x).getD h 0 = if i = h ∧ i < f.length then x else f.getD h 0 := by
  rw [List.getD_eq_getElem?_getD, List.getD_eq_getElem?_getD, List.getElem?_set]
  by_cases e : i = h
  · subst e
    by_cases hl : i < f.length
    · rw [if_pos rfl, if_pos hl, if_pos ⟨rfl, hl⟩] <;> rfl
    · rw [if_pos rfl, if_neg hl, if_neg (fun z => hl z.2), List.getElem?_eq_none (by omega)]
  · rw [if_neg e, if_neg (fun z => e z.1)]
theorem addAt_get {f : List Int} {i h : Nat} {x : Int} (hi : i < f.length) : (addAt f i x).getD h 0 = f.getD h 0 + x * at1 i h := by
  unfold addAt at1
  rw [getD_set_eq]
  by_cases e : i = h
  · subst e
    rw [if_pos ⟨rfl, hi⟩, if_pos rfl]
    omega
  · rw [if_neg (fun z => e z.1), if_neg e]
    omega
theorem bal_get {c h : Nat} : ∀ (ds : List Dt) (f : List Int), f.length = c → (∀ d ∈ ds, d.a < c ∧ d.b < c) → (ds.foldl balStep f).getD h 0 = f.getD h 0 + (ds.map fun d => d.m * (at1 d.b h - at1 d.a h)).sum
  | [], f, _, _ => by simp
  | d :: r, f, hf, hd => by
    obtain ⟨h1, h2⟩ := hd d List.mem_cons_self
    rw [List.foldl_cons, bal_get r (balStep f d) (by rw [balStep_len]; exact hf) (fun e he => hd e (List.mem_cons_of_mem _ he)), List.map_cons, List.sum_cons]
    unfold balStep
    rw [addAt_get (by rw [addAt_len]; omega), addAt_get (by omega), Int.mul_sub, Int.neg_mul]
    omega
theorem withCut_ab {c : Nat} {ds : List Dt} {f : List Int} (hb : ∀ d ∈ ds, d.a < c ∧ d.b < c) : ∀ d ∈ withCut ds f, d.a < c ∧ d.b < c := by
  intro d hd
  obtain ⟨n, hn, rfl⟩ := List.mem_map.mp hd
  exact hb (ds.getD n d0) (getD_mem (List.mem_range.mp hn))
theorem getD_replicate {c h : Nat} : (List.replicate c (0 : Int)).getD h 0 = 0 := by
  rw [List.getD_eq_getElem?_getD, List.getElem?_replicate]
  split <;> rfl
theorem bal_cut {c h : Nat} {ds : List Dt} {f : List Int} (hb : ∀ d ∈ ds, d.a < c ∧ d.b < c) : (bal c (withCut ds f)).getD h 0 = gain ds (fun n => f.getD n 0) h := by
  unfold bal
  rw [bal_get (c := c) _ _ List.length_replicate (withCut_ab hb), getD_replicate]
  unfold withCut gain
  rw [List.map_map]
  exact Int.zero_add _
/-- no house gains or loses -/
def evenB (c : Nat) (ds : List Dt) (f : List Int) : Bool := decide (bal c (withCut ds f) = List.replicate c 0)
theorem gain_far {c h : Nat} {ds : List Dt} {f : Nat → Int} (hb : ∀ d ∈ ds, d.a < c ∧ d.b < c) (hh : c ≤ h) : gain ds f h = 0 := by
  unfold gain
  refine sum_zero fun n hn => ?_
  have := hb _ (getD_mem (List.mem_range.mp hn))
  have h1 : dA ds n < c := this.1
  have h2 : dB ds n < c := this.2
  unfold at1
  rw [if_neg (by omega), if_neg (by omega)]
  omega
theorem ext_getD {f g : List Int} (hl : f.length = g.length) (h : ∀ n, n < f.length → f.getD n 0 = g.getD n 0) : f = g := by
  apply List.ext_getElem hl
  intro n h1 h2
  have := h n h1
  rw [List.getD_eq_getElem?_getD, List.getD_eq_getElem?_getD, List.getElem?_eq_getElem h1, List.getElem?_eq_getElem h2] at this
  exact this
theorem even_iff {c : Nat} {ds : List Dt} {f : List Int} (hb : ∀ d ∈ ds, d.a < c ∧ d.b < c) : evenB c ds f = true ↔ ∀ h, gain ds (fun n => f.getD n 0) h = 0 := by
  unfold evenB
  rw [decide_eq_true_eq]
  constructor
  · intro e h
    rw [← bal_cut hb, e, getD_replicate]
  · intro e
    refine ext_getD (by rw [bal_len, List.length_replicate]) fun n _ => ?_
    rw [bal_cut hb, e n, getD_replicate]

/-! ### the law's own even cuts -/
/-- the law's walk, by turns -/
def ringGo (ds : List Dt) (room : List Int) (x : Int) : Nat → Nat → List Nat → List Nat
  | 0, _, _ => []
  | n + 1, t, way =>
    if dB ds (way.getD (way.length - 1) 0) ∈ way.map (dA ds) then way.drop ((way.map (dA ds)).idxOf (dB ds (way.getD (way.length - 1) 0))) else
      let later := (List.range ds.length).filter fun n => decide (dA ds n = dB ds (way.getD (way.length - 1) 0)) && decide (0 < room.getD n 0)
      if later.length = 0 then [] else ringGo ds room x n (t + 1) (way ++ [later.getD ((x / 7 + 3 * (t : Int)) % (later.length : Int)).toNat 0])
def ringBy (ds : List Dt) (room : List Int) (x : Int) : List Nat := if ds.length = 0 then [] else ringGo ds room x 20 0 [(x % (ds.length : Int)).toNat]
structure WayL (ds : List Dt) (way : List Nat) : Prop where
  pos : 0 < way.length
  mem : ∀ n ∈ way, n ∈ List.range ds.length
  nd : (way.map (dA ds)).Nodup
  ln : ∀ k, k + 1 < way.length → dB ds (way.getD k 0) = dA ds (way.getD (k + 1) 0)
theorem WayL.ok {ds : List Dt} {way : List Nat} {c : Nat} (w : WayL ds way) (h : dB ds (way.getD (way.length - 1) 0) ∈ way.map (dA ds)) : WayOk c ds (List.range ds.length) way (dB ds (way.getD (way.length - 1) 0)) := by
  refine ⟨w.mem, w.nd, w.ln, fun _ => rfl, ?_⟩
  obtain ⟨n, hn, e⟩ := List.mem_map.mp h
  exact ⟨n, w.mem n hn, e⟩
theorem WayL.snoc {ds : List Dt} {way : List Nat} {m : Nat} (w : WayL ds way) (hm : m ∈ List.range ds.length) (ha : dA ds m = dB ds (way.getD (way.length - 1) 0)) (h : dB ds (way.getD (way.length - 1) 0) ∉ way.map (dA ds)) : WayL ds (way ++ [m]) := by
  have hp := w.pos
  refine ⟨by rw [List.length_append, List.length_singleton]; omega, fun n hn => ?_, ?_, fun k hk => ?_⟩
  · rcases List.mem_append.mp hn with hn | hn
    · exact w.mem n hn
    · rw [List.mem_singleton.mp hn]
      exact hm
  · rw [List.map_append]
    show (way.map (dA ds) ++ [dA ds m]).Nodup
    rw [ha]
    exact nodup_snoc' w.nd h
  · rw [List.length_append, List.length_singleton] at hk
    rw [getD_snoc_lt (by omega)]
    by_cases e : k + 1 < way.length
    · rw [getD_snoc_lt e]
      exact w.ln k e
    · have e2 : k + 1 = way.length := by omega
      rw [e2, getD_snoc_eq, ha, show way.length - 1 = k by omega]
theorem later_mem {ds : List Dt} {p : Nat → Bool} {i : Nat} (h : i < ((List.range ds.length).filter p).length) : ((List.range ds.length).filter p).getD i 0 ∈ List.range ds.length ∧ p (((List.range ds.length).filter p).getD i 0) = true := by
  exact List.mem_filter.mp (getD_memN h)
theorem ringGo_ok {ds : List Dt} {room : List Int} {x : Int} : ∀ (n t : Nat) (way : List Nat), WayL ds way → ringGo ds room x n t way = [] ∨ IsRing ds (List.range ds.length) (ringGo ds room x n t way)
  | 0, _, _, _ => .inl rfl
  | n + 1, t, way, w => by
    unfold ringGo
    dsimp only
    by_cases e : dB ds (way.getD (way.length - 1) 0) ∈ way.map (dA ds)
    · rw [if_pos e]
      exact .inr ((w.ok (c := 0) e).ring (idx_get e))
    · rw [if_neg e]
      split
      · exact .inl rfl
      · rename_i hl
        generalize hg : ((List.range ds.length).filter fun n => decide (dA ds n = dB ds (way.getD (way.length - 1) 0)) && decide (0 < room.getD n 0)) = later at hl ⊢
        have h0 := Int.emod_nonneg (x / 7 + 3 * (t : Int)) (show (later.length : Int) ≠ 0 by omega)
        have h1 := Int.emod_lt_of_pos (x / 7 + 3 * (t : Int)) (show (0 : Int) < later.length by omega)
        have hm : later.getD ((x / 7 + 3 * (t : Int)) % (later.length : Int)).toNat 0 ∈ later := getD_memN (by omega)
        rw [← hg] at hm
        obtain ⟨m1, m2⟩ := List.mem_filter.mp hm
        rw [hg] at m1 m2
        rw [Bool.and_eq_true, decide_eq_true_eq] at m2
        exact ringGo_ok n (t + 1) _ (w.snoc m1 m2.1 e)
theorem ringBy_ok (ds : List Dt) (room : List Int) (x : Int) : ringBy ds room x = [] ∨ IsRing ds (List.range ds.length) (ringBy ds room x) := by
  unfold ringBy
  split
  · exact .inl rfl
  · rename_i h
    have h0 := Int.emod_nonneg x (show (ds.length : Int) ≠ 0 by omega)
    have h1 := Int.emod_lt_of_pos x (show (0 : Int) < ds.length by omega)
    refine ringGo_ok 20 0 _ ⟨by simp, fun n hn => ?_, by simp, fun k hk => ?_⟩
    · rw [List.mem_singleton.mp hn]
      exact List.mem_range.mpr (by omega)
    · rw [List.length_singleton] at hk
      omega
/-- the least of some numbers -/
def least (l : List Int) : Int := (l.min?).getD 0
theorem least_ok {l : List Int} (h : 0 < l.length) : least l ∈ l ∧ ∀ y ∈ l, least l ≤ y := by
  cases e : l.min? with
  | none =>
    rw [List.min?_eq_none_iff] at e
    rw [e] at h
    cases h
  | some m =>
    have q := List.min?_eq_some_iff.mp e
    unfold least
    rw [e]
    exact q
def lessAt (l : List Int) (k : Int) (n : Nat) : List Int := l.set n (l.getD n 0 - k)
def cutMany (x most : Int) : Int := if decide (x / 40 % 3 = 1) = true ∧ decide (0 < most) = true then 1 + x / 120 % most else most
def cutStep (ds : List Dt) (room : List Int) (x : Int) : List Int :=
  let r := ringBy ds room x
  if 0 < r.length then r.foldl (fun l n => lessAt l (cutMany x (least (r.map fun n => room.getD n 0))) n) room else room
def rooms (ds : List Dt) (xs : List Int) : List Int := xs.foldl (cutStep ds) (ds.map (·.m))
def evenCut (ds : List Dt) (xs : List Int) : List Int := (List.range ds.length).map fun n => dM ds n - (rooms ds xs).getD n 0
theorem lessAt_len {l : List Int} {k : Int} {n : Nat} : (lessAt l k n).length = l.length := by unfold lessAt; rw [List.length_set]
theorem less_fold {k : Int} : ∀ (r : List Nat) (l : List Int), (∀ n ∈ r, n < l.length) → (r.foldl (fun l n => lessAt l k n) l).length = l.length ∧ ∀ m, (r.foldl (fun l n => lessAt l k n) l).getD m 0 = l.getD m 0 - k * inR r m
  | [], l, _ => ⟨rfl, fun m => by unfold inR; simp⟩
  | x :: r, l, h => by
    obtain ⟨h1, h2⟩ := less_fold (k := k) r (lessAt l k x) fun n hn => by rw [lessAt_len]; exact h n (List.mem_cons_of_mem _ hn)
    rw [List.foldl_cons]
    refine ⟨by rw [h1, lessAt_len], fun m => ?_⟩
    rw [h2 m]
    have hx := h x List.mem_cons_self
    unfold lessAt inR
    rw [getD_set_eq, List.count_cons]
    by_cases e : x = m
    · subst e
      rw [if_pos ⟨rfl, hx⟩]
      simp only [beq_self_eq_true, if_true]
      rw [Int.natCast_add, Int.mul_add]
      omega
    · rw [if_neg (fun z => e z.1)]
      simp [e]
/-- what is still to be cut off: an even cut has been taken -/
structure RoomOk (ds : List Dt) (l : List Int) : Prop where
  len : l.length = ds.length
  lo : ∀ n, n < ds.length → 0 ≤ l.getD n 0
  hi : ∀ n, n < ds.length → l.getD n 0 ≤ dM ds n
  ev : ∀ h, gain ds (fun n => dM ds n - l.getD n 0) h = 0
theorem map_m_get {ds : List Dt} {n : Nat} : (ds.map (·.m)).getD n 0 = dM ds n := by
  unfold dM
  rw [List.getD_eq_getElem?_getD, List.getD_eq_getElem?_getD, List.getElem?_map]
  cases ds[n]? <;> rfl
theorem RoomOk.start {ds : List Dt} (hm : ∀ d ∈ ds, 0 ≤ d.m) : RoomOk ds (ds.map (·.m)) := by
  refine ⟨List.length_map .., fun n hn => ?_, fun n hn => ?_, fun h => ?_⟩
  · rw [map_m_get]
    exact hm _ (getD_mem hn)
  · rw [map_m_get]
    exact Int.le_refl _
  · rw [gain_congr (g := fun _ => 0) fun n _ => by rw [map_m_get]; omega]
    exact gain_zero
theorem cutMany_ok {x most : Int} (h : 0 ≤ most) : 0 ≤ cutMany x most ∧ cutMany x most ≤ most := by
  unfold cutMany
  split
  · rename_i q
    have hp := of_decide_eq_true q.2
    have h0 := Int.emod_nonneg (x / 120) (show most ≠ 0 by omega)
    have h1 := Int.emod_lt_of_pos (x / 120) hp
    omega
  · omega
theorem RoomOk.step {ds : List Dt} {l : List Int} {x : Int} (k : RoomOk ds l) : RoomOk ds (cutStep ds l x) := by
  unfold cutStep
  dsimp only
  split
  · rename_i hp
    have R := (ringBy_ok ds l x).resolve_left fun e => by rw [e] at hp; cases hp
    generalize ringBy ds l x = r at hp R ⊢
    have hr : ∀ n ∈ r, n < ds.length := fun n hn => List.mem_range.mp (R.mem n hn)
    obtain ⟨m1, m2⟩ := least_ok (l := r.map fun n => l.getD n 0) (by rw [List.length_map]; exact hp)
    generalize least (r.map fun n => l.getD n 0) = most at m1 m2 ⊢
    have hmost : 0 ≤ most := by
      obtain ⟨n, hn, e⟩ := List.mem_map.mp m1
      rw [← e]
      exact k.lo n (hr n hn)
    obtain ⟨c1, c2⟩ := cutMany_ok (x := x) hmost
    generalize cutMany x most = many at c1 c2 ⊢
    obtain ⟨f1, f2⟩ := less_fold (k := many) r l fun n hn => by rw [k.len]; exact hr n hn
    refine ⟨by rw [f1, k.len], fun n hn => ?_, fun n hn => ?_, fun h => ?_⟩
    · rw [f2, inR_one R.nodup]
      by_cases e : n ∈ r
      · rw [if_pos e]
        have := m2 _ (List.mem_map.mpr ⟨n, e, rfl⟩)
        omega
      · rw [if_neg e]
        have := k.lo n hn
        omega
    · rw [f2, inR_one R.nodup]
      have := k.hi n hn
      split <;> omega
    · rw [gain_congr (g := fun n => (dM ds n - l.getD n 0) + many * inR r n) fun n _ => by rw [f2]; omega, gain_add, gain_mul, k.ev, gain_ring R (fun n hn => List.mem_range.mp hn)]
      omega
  · exact k
theorem rooms_ok {ds : List Dt} : ∀ (xs : List Int) (l : List Int), RoomOk ds l → RoomOk ds (xs.foldl (cutStep ds) l)
  | [], _, k => k
  | x :: xs, l, k => rooms_ok xs _ k.step
theorem getD_map_range {n m : Nat} {f : Nat → Int} (h : n < m) : ((List.range m).map f).getD n 0 = f n := by
  rw [List.getD_eq_getElem?_getD, List.getElem?_map, List.getElem?_range h] <;> rfl
theorem evenCut_ok {c : Nat} {ds : List Dt} {xs : List Int} (B : Book c ds) : CutOk ds (evenCut ds xs) ∧ evenB c ds (evenCut ds xs) = true := by
  have k : RoomOk ds (rooms ds xs) := rooms_ok xs _ (RoomOk.start fun d hd => by have := (B.ok d hd).lo; omega)
  have hg : ∀ n, n < ds.length → (evenCut ds xs).getD n 0 = dM ds n - (rooms ds xs).getD n 0 := fun n hn => getD_map_range hn
  refine ⟨⟨by unfold evenCut; rw [List.length_map, List.length_range], fun n hn => ?_, fun n hn => ?_⟩, ?_⟩
  · rw [hg n hn]
    have := k.hi n hn
    omega
  · rw [hg n hn]
    have := k.lo n hn
    omega
  · rw [even_iff fun d hd => ⟨(B.ok d hd).a, (B.ok d hd).b⟩]
    intro h
    rw [gain_congr hg, k.ev]
end Bk

set_option Elab.async false
set_option linter.all false
set_option maxRecDepth 100000
set_option maxHeartbeats 4000000
/-! M07: an even cut is made of rings -/
namespace Bk
def posN (ds : List Dt) (l : List Int) : List Nat := (List.range ds.length).filter fun n => decide (0 < l.getD n 0)
structure RestOk (ds : List Dt) (l : List Int) : Prop where
  len : l.length = ds.length
  lo : ∀ n, n < ds.length → 0 ≤ l.getD n 0
  ev : ∀ h, gain ds (fun n => l.getD n 0) h = 0
theorem posN_mem {ds : List Dt} {l : List Int} {n : Nat} : n ∈ posN ds l ↔ n < ds.length ∧ 0 < l.getD n 0 := by
  unfold posN
  rw [List.mem_filter, List.mem_range, decide_eq_true_eq]
theorem sum_pos {α : Type} {f : α → Int} : ∀ {l : List α}, (∀ n ∈ l, 0 ≤ f n) → 0 ≤ (l.map f).sum
  | [], _ => Int.le_refl _
  | x :: l, h => by
    rw [List.map_cons, List.sum_cons]
    have := h x List.mem_cons_self
    have := sum_pos (l := l) fun n hn => h n (List.mem_cons_of_mem _ hn)
    omega
theorem sum_pos1 {α : Type} {f : α → Int} : ∀ {l : List α} {x : α}, (∀ n ∈ l, 0 ≤ f n) → x ∈ l → f x ≤ (l.map f).sum
  | y :: l, x, h, hx => by
    rw [List.map_cons, List.sum_cons]
    have h1 := h y List.mem_cons_self
    have h2 := sum_pos (l := l) fun n hn => h n (List.mem_cons_of_mem _ hn)
    rcases List.mem_cons.mp hx with rfl | hx
    · omega
    · have := sum_pos1 (l := l) (fun n hn => h n (List.mem_cons_of_mem _ hn)) hx
      omega
/-- a house that gets something gives something -/
theorem rest_out {ds : List Dt} {l : List Int} (k : RestOk ds l) {n : Nat} (hn : n ∈ posN ds l) : ∃ m ∈ posN ds l, dA ds m = dB ds n := by
  obtain ⟨h1, h2⟩ := posN_mem.mp hn
  by_cases q : ∃ m ∈ posN ds l, dA ds m = dB ds n
  · exact q
  · exfalso
    have hev := k.ev (dB ds n)
    have hA : ∀ m, m < ds.length → l.getD m 0 * at1 (dA ds m) (dB ds n) = 0 := by
      intro m hm
      have := k.lo m hm
      unfold at1
      by_cases e : dA ds m = dB ds n
      · have : ¬ 0 < l.getD m 0 := fun z => q ⟨m, posN_mem.mpr ⟨hm, z⟩, e⟩
        rw [if_pos e]
        omega
      · rw [if_neg e]
        omega
    have e1 : gain ds (fun n => l.getD n 0) (dB ds n) = ((List.range ds.length).map fun m => l.getD m 0 * at1 (dB ds m) (dB ds n)).sum := by
      unfold gain
      refine sum_congr fun m hm => ?_
      rw [Int.mul_sub, hA m (List.mem_range.mp hm)]
      exact Int.sub_zero _
    rw [e1] at hev
    have h3 := sum_pos1 (f := fun m => l.getD m 0 * at1 (dB ds m) (dB ds n)) (l := List.range ds.length) (x := n) (fun m hm => by
      have := k.lo m (List.mem_range.mp hm)
      show 0 ≤ l.getD m 0 * at1 (dB ds m) (dB ds n)
      unfold at1
      split <;> omega) (List.mem_range.mpr h1)
    have e2 : l.getD n 0 * at1 (dB ds n) (dB ds n) = l.getD n 0 := by
      unfold at1
      rw [if_pos rfl]
      omega
    rw [hev] at h3
    have h3 : l.getD n 0 * at1 (dB ds n) (dB ds n) ≤ 0 := h3
    rw [e2] at h3
    omega
theorem rest_nums {c : Nat} {ds : List Dt} {l : List Int} (k : RestOk ds l) (hb : ∀ d ∈ ds, d.a < c ∧ d.b < c) : Nums c ds (posN ds l) :=
  ⟨fun n hn => (posN_mem.mp hn).1, fun n hn => (hb _ (getD_mem (posN_mem.mp hn).1)).1, fun n hn => rest_out k hn⟩
def ringOne (ds : List Dt) (l : List Int) : List Nat := walkR ds (posN ds l) (dA ds ((posN ds l).getD 0 0))
def ringK (ds : List Dt) (l : List Int) : Int := least ((ringOne ds l).map fun n => l.getD n 0)
def ringRest (ds : List Dt) (l : List Int) : List Int := (ringOne ds l).foldl (fun y n => lessAt y (ringK ds l) n) l
def ringsGo (ds : List Dt) : Nat → List Int → List (Int × List Nat)
  | 0, _ => []
  | n + 1, l => if (posN ds l).length = 0 then [] else (ringK ds l, ringOne ds l) :: ringsGo ds n (ringRest ds l)
def ringsOf (ds : List Dt) (f : List Int) : List (Int × List Nat) := ringsGo ds (posN ds f).length f
/-- all that the rings take off n -/
def ringSum (rs : List (Int × List Nat)) (n : Nat) : Int := (rs.map fun p => p.1 * inR p.2 n).sum
theorem ringOne_ok {c : Nat} {ds : List Dt} {l : List Int} (k : RestOk ds l) (hb : ∀ d ∈ ds, d.a < c ∧ d.b < c) (hc : c ≤ 20) (hp : 0 < (posN ds l).length) : IsRing ds (posN ds l) (ringOne ds l) :=
  walkR_ok (rest_nums k hb) hc ⟨_, getD_memN hp, rfl⟩
theorem ringK_ok {c : Nat} {ds : List Dt} {l : List Int} (k : RestOk ds l) (hb : ∀ d ∈ ds, d.a < c ∧ d.b < c) (hc : c ≤ 20) (hp : 0 < (posN ds l).length) :
    ringK ds l ∈ ((ringOne ds l).map fun n => l.getD n 0) ∧ (∀ n ∈ ringOne ds l, ringK ds l ≤ l.getD n 0) ∧ 0 < ringK ds l := by
  have R := ringOne_ok k hb hc hp
  obtain ⟨m1, m2⟩ := least_ok (l := (ringOne ds l).map fun n => l.getD n 0) (by rw [List.length_map]; exact R.pos)
  refine ⟨m1, fun n hn => m2 _ (List.mem_map.mpr ⟨n, hn, rfl⟩), ?_⟩
  obtain ⟨n, hn, e⟩ := List.mem_map.mp m1
  have := (posN_mem.mp (R.mem n hn)).2
  unfold ringK
  rw [← e]
  exact this
theorem ringRest_get {c : Nat} {ds : List Dt} {l : List Int} (k : RestOk ds l) (hb : ∀ d ∈ ds, d.a < c ∧ d.b < c) (hc : c ≤ 20) (hp : 0 < (posN ds l).length) :
    (ringRest ds l).length = l.length ∧ ∀ m, (ringRest ds l).getD m 0 = l.getD m 0 - ringK ds l * inR (ringOne ds l) m := by
  have R := ringOne_ok k hb hc hp
  exact less_fold _ l fun n hn => by rw [k.len]; exact (posN_mem.mp (R.mem n hn)).1
theorem RestOk.step {c : Nat} {ds : List Dt} {l : List Int} (k : RestOk ds l) (hb : ∀ d ∈ ds, d.a < c ∧ d.b < c) (hc : c ≤ 20) (hp : 0 < (posN ds l).length) : RestOk ds (ringRest ds l) := by
  have R := ringOne_ok k hb hc hp
  obtain ⟨_, m2, m3⟩ := ringK_ok k hb hc hp
  obtain ⟨f1, f2⟩ := ringRest_get k hb hc hp
  refine ⟨by rw [f1, k.len], fun n hn => ?_, fun h => ?_⟩
  · rw [f2, inR_one R.nodup]
    have := k.lo n hn
    split
    · rename_i e
      have := m2 n e
      omega
    · omega
  · rw [gain_congr (g := fun n => l.getD n 0 + (-1 * ringK ds l) * inR (ringOne ds l) n) fun n _ => by rw [f2, Int.mul_assoc]; omega, gain_add, gain_mul, k.ev, gain_ring R fun n hn => (posN_mem.mp hn).1]
    omega
theorem filter_less {p q : Nat → Bool} {x : Nat} : ∀ {l : List Nat}, (∀ n ∈ l, q n = true → p n = true) → x ∈ l → p x = true → q x = false → (l.filter q).length < (l.filter p).length
  | y :: l, h, hx, h1, h2 => by
    have sub : ∀ {l : List Nat}, (∀ n ∈ l, q n = true → p n = true) → (l.filter q).length ≤ (l.filter p).length := by
      intro l
      induction l with
      | nil => exact fun _ => Nat.le_refl _
      | cons z l ih =>
        intro h
        have i := ih fun n hn => h n (List.mem_cons_of_mem _ hn)
        by_cases e : q z = true
        · rw [List.filter_cons_of_pos e, List.filter_cons_of_pos (h z List.mem_cons_self e)]
          simpa using i
        · rw [List.filter_cons_of_neg e]
          by_cases e2 : p z = true
          · rw [List.filter_cons_of_pos e2, List.length_cons]
            omega
          · rw [List.filter_cons_of_neg e2]
            exact i
    have hl := sub (l := l) fun n hn => h n (List.mem_cons_of_mem _ hn)
    rcases List.mem_cons.mp hx with rfl | hx
    · rw [List.filter_cons_of_neg (by rw [h2]; decide), List.filter_cons_of_pos h1, List.length_cons]
      omega
    · have ih := filter_less (l := l) (fun n hn => h n (List.mem_cons_of_mem _ hn)) hx h1 h2
      by_cases e : q y = true
      · rw [List.filter_cons_of_pos e, List.filter_cons_of_pos (h y List.mem_cons_self e)]
        simpa using ih
      · rw [List.filter_cons_of_neg e]
        by_cases e2 : p y = true
        · rw [List.filter_cons_of_pos e2, List.length_cons]
          omega
        · rw [List.filter_cons_of_neg e2]
          exact ih
theorem posN_less {c : Nat} {ds : List Dt} {l : List Int} (k : RestOk ds l) (hb : ∀ d ∈ ds, d.a < c ∧ d.b < c) (hc : c ≤ 20) (hp : 0 < (posN ds l).length) : (posN ds (ringRest ds l)).length < (posN ds l).length := by
  have R := ringOne_ok k hb hc hp
  obtain ⟨m1, m2, m3⟩ := ringK_ok k hb hc hp
  obtain ⟨f1, f2⟩ := ringRest_get k hb hc hp
  obtain ⟨x, hx, e⟩ := List.mem_map.mp m1
  obtain ⟨h1, h2⟩ := posN_mem.mp (R.mem x hx)
  refine filter_less (x := x) (fun n hn q => ?_) (List.mem_range.mpr h1) (decide_eq_true h2) ?_
  · rw [decide_eq_true_eq] at q ⊢
    rw [f2, inR_one R.nodup] at q
    split at q <;> omega
  · rw [decide_eq_false_iff_not, f2, inR_one R.nodup, if_pos hx]
    omega
/-- what the rings are -/
structure RingsOk (ds : List Dt) (f : List Int) (rs : List (Int × List Nat)) : Prop where
  len : rs.length ≤ ds.length
  rg : ∀ p ∈ rs, 0 < p.1 ∧ ∃ nums, (∀ n ∈ nums, n < ds.length) ∧ IsRing ds nums p.2
  sm : ∀ n, n < ds.length → ringSum rs n = f.getD n 0
theorem ringsGo_ok {c : Nat} {ds : List Dt} (hb : ∀ d ∈ ds, d.a < c ∧ d.b < c) (hc : c ≤ 20) : ∀ (n : Nat) (l : List Int), RestOk ds l → (posN ds l).length ≤ n → (ringsGo ds n l).length ≤ n ∧ (∀ p ∈ ringsGo ds n l, 0 < p.1 ∧ ∃ nums, (∀ n ∈ nums, n < ds.length) ∧ IsRing ds nums p.2) ∧ ∀ m, m < ds.length → ringSum (ringsGo ds n l) m = l.getD m 0
  | 0, l, k, hn => by
    refine ⟨Nat.le_refl _, (fun p hp => nomatch hp), fun m hm => ?_⟩
    have h0 : ¬ m ∈ posN ds l := fun z => by
      have := List.length_pos_of_mem z
      omega
    have := k.lo m hm
    have h2 : ¬ 0 < l.getD m 0 := fun z => h0 (posN_mem.mpr ⟨hm, z⟩)
    show (0 : Int) = _
    omega
  | n + 1, l, k, hn => by
    unfold ringsGo
    split
    · rename_i q
      refine ⟨Nat.zero_le _, (fun p hp => nomatch hp), fun m hm => ?_⟩
      have h0 : ¬ m ∈ posN ds l := fun z => by
        have := List.length_pos_of_mem z
        omega
      have := k.lo m hm
      have h2 : ¬ 0 < l.getD m 0 := fun z => h0 (posN_mem.mpr ⟨hm, z⟩)
      show (0 : Int) = _
      omega
    · rename_i q
      have hp : 0 < (posN ds l).length := by omega
      have R := ringOne_ok k hb hc hp
      obtain ⟨_, _, m3⟩ := ringK_ok k hb hc hp
      obtain ⟨f1, f2⟩ := ringRest_get k hb hc hp
      have hless := posN_less k hb hc hp
      obtain ⟨i1, i2, i3⟩ := ringsGo_ok hb hc n (ringRest ds l) (k.step hb hc hp) (by omega)
      refine ⟨by rw [List.length_cons]; omega, fun p hp => ?_, fun m hm => ?_⟩
      · rcases List.mem_cons.mp hp with rfl | hp
        · exact ⟨m3, posN ds l, fun n hn => (posN_mem.mp hn).1, R⟩
        · exact i2 p hp
      · have := i3 m hm
        unfold ringSum at this ⊢
        rw [List.map_cons, List.sum_cons, this, f2]
        show ringK ds l * inR (ringOne ds l) m + (l.getD m 0 - ringK ds l * inR (ringOne ds l) m) = l.getD m 0
        omega
theorem posN_le (ds : List Dt) (l : List Int) : (posN ds l).length ≤ ds.length := by
  unfold posN
  refine Nat.le_trans (List.length_filter_le _ _) ?_
  rw [List.length_range]
  exact Nat.le_refl _
theorem rest_of_cut {c : Nat} {ds : List Dt} {f : List Int} (k : CutOk ds f) (hb : ∀ d ∈ ds, d.a < c ∧ d.b < c) (he : evenB c ds f = true) : RestOk ds f := ⟨k.len, k.lo, (even_iff hb).mp he⟩
theorem ringsOf_ok {c : Nat} {ds : List Dt} {f : List Int} (k : CutOk ds f) (hb : ∀ d ∈ ds, d.a < c ∧ d.b < c) (hc : c ≤ 20) (he : evenB c ds f = true) : RingsOk ds f (ringsOf ds f) := by
  obtain ⟨h1, h2, h3⟩ := ringsGo_ok hb hc (posN ds f).length f (rest_of_cut k hb he) (Nat.le_refl _)
  exact ⟨Nat.le_trans h1 (posN_le ds f), h2, h3⟩
/-! a cut that is uneven by one -/
def shakenAt (ds : List Dt) (f : List Int) (n : Nat) : List Int := f.take n ++ [f.getD n 0 + (if f.getD n 0 = dM ds n then -1 else 1)] ++ f.drop (n + 1)
theorem splice_set {f : List Int} {n : Nat} {x : Int} (hn : n < f.length) : f.take n ++ [x] ++ f.drop (n + 1) = f.set n x := by
  rw [List.set_eq_take_append_cons_drop, if_pos hn, List.append_assoc] <;> rfl
theorem shaken_get {ds : List Dt} {f : List Int} {n : Nat} (hn : n < f.length) : shakenAt ds f n = f.set n (f.getD n 0 + (if f.getD n 0 = dM ds n then -1 else 1)) := splice_set hn
theorem shaken_ok {c : Nat} {ds : List Dt} {f : List Int} {n : Nat} (B : Book c ds) (k : CutOk ds f) (hn : n < ds.length) : CutOk ds (shakenAt ds f n) := by
  rw [shaken_get (by rw [k.len]; exact hn)]
  have hm : 1 ≤ dM ds n := (B.ok _ (getD_mem hn)).lo
  have h1 := k.lo n hn
  have h2 := k.hi n hn
  refine ⟨by rw [List.length_set, k.len], fun m hm => ?_, fun m hm => ?_⟩
  · rw [getD_set_eq]
    have := k.lo m hm
    split
    · split <;> omega
    · omega
  · rw [getD_set_eq]
    have := k.hi m hm
    split
    · rename_i q
      rw [← q.1]
      split <;> omega
    · omega
theorem shaken_no {c : Nat} {ds : List Dt} {f : List Int} {n : Nat} (B : Book c ds) (k : CutOk ds f) (he : evenB c ds f = true) (hn : n < ds.length) : evenB c ds (shakenAt ds f n) = false := by
  have hb : ∀ d ∈ ds, d.a < c ∧ d.b < c := fun d hd => ⟨(B.ok d hd).a, (B.ok d hd).b⟩
  rw [← Bool.not_eq_true, even_iff hb]
  intro h
  have h0 := (even_iff hb).mp he (dB ds n)
  have h1 := h (dB ds n)
  rw [shaken_get (by rw [k.len]; exact hn)] at h1
  generalize hs : (if f.getD n 0 = dM ds n then (-1 : Int) else 1) = st at h1
  have hst : st = -1 ∨ st = 1 := by
    rw [← hs]
    split <;> simp
  have e : gain ds (fun m => (f.set n (f.getD n 0 + st)).getD m 0) (dB ds n) = gain ds (fun m => f.getD m 0 + st * inR [n] m) (dB ds n) := gain_congr fun m hm => by
    rw [getD_set_eq, inR_one (by simp)]
    by_cases q : n = m
    · subst q
      rw [if_pos ⟨rfl, by rw [k.len]; exact hn⟩, if_pos (by simp)]
      omega
    · rw [if_neg (fun z => q z.1), if_neg (fun z => q (List.mem_singleton.mp z).symm)]
      omega
  rw [e, gain_add, gain_mul, h0] at h1
  have ne : dA ds n ≠ dB ds n := (B.ok _ (getD_mem hn)).ne
  have e2 : gain ds (inR [n]) (dB ds n) = 1 := by
    unfold gain
    rw [sum_count fun m hm => by rw [List.mem_singleton.mp hm]; exact hn, List.map_singleton, List.sum_singleton]
    unfold at1
    rw [if_pos rfl, if_neg ne]
    rfl
  rw [e2] at h1
  omega
end Bk

set_option Elab.async false
set_option linter.all false
set_option maxRecDepth 100000
set_option maxHeartbeats 4000000
/-! M08: heights that rise along moves; a house that rises for ever stands behind a ring of moves that is worth more -/
namespace Bk
/-- a move: from, to, worth, number, room -/
structure Rw where
  f : Nat
  t : Nat
  w : Int
  n : Nat
  r : Int
def movesAt (ds : List Dt) (cut : List Int) (n : Nat) : List Rw := (if cut.getD n 0 < dM ds n then [⟨dA ds n, dB ds n, 1, n, dM ds n - cut.getD n 0⟩] else []) ++ (if 0 < cut.getD n 0 then [⟨dB ds n, dA ds n, -1, n, cut.getD n 0⟩] else [])
def movesOf (ds : List Dt) (cut : List Int) : List Rw := (List.range ds.length).flatMap (movesAt ds cut)
structure CS where
  h : List Int
  l : List (Option Rw)
  ri : Option Nat
def relx (s : CS) (r : Rw) : CS := if s.h.getD r.t 0 < s.h.getD r.f 0 + r.w then ⟨s.h.set r.t (s.h.getD r.f 0 + r.w), s.l.set r.t (some r), some r.t⟩ else s
def rnd (rows : List Rw) (s : CS) : CS := rows.foldl relx { s with ri := none }
def climb (rows : List Rw) : Nat → CS → CS
  | 0, s => s
  | n + 1, s => if (rnd rows s).ri = none then rnd rows s else climb rows n (rnd rows s)
def climbed (c : Nat) (rows : List Rw) : CS := climb rows (c + 1) ⟨List.replicate c 0, List.replicate c none, none⟩
/-- the row is content -/
def Sat (s : CS) (r : Rw) : Prop := s.h.getD r.f 0 + r.w ≤ s.h.getD r.t 0
theorem ri_stays : ∀ (rows : List Rw) (s : CS), (rows.foldl relx s).ri = none → rows.foldl relx s = s ∧ s.ri = none ∧ ∀ r ∈ rows, Sat s r
  | [], s, h => ⟨rfl, h, fun _ z => nomatch z⟩
  | r :: rows, s, h => by
    rw [List.foldl_cons] at h ⊢
    obtain ⟨i1, i2, i3⟩ := ri_stays rows (relx s r) h
    unfold relx at i1 i2 i3 ⊢
    split at i2
    · cases i2
    · rename_i q
      rw [if_neg q] at i1 i3 ⊢
      refine ⟨i1, i2, fun r' hr => ?_⟩
      rcases List.mem_cons.mp hr with rfl | hr
      · unfold Sat
        omega
      · exact i3 r' hr
theorem rnd_rest {rows : List Rw} {s : CS} (h : (rnd rows s).ri = none) : ∀ r ∈ rows, Sat (rnd rows s) r := by
  obtain ⟨h1, _, h3⟩ := ri_stays rows { s with ri := none } h
  unfold rnd
  rw [h1]
  exact h3
theorem climb_rest {rows : List Rw} : ∀ (n : Nat) (s : CS), (climb rows n s).ri = none → 0 < n ∨ s.ri ≠ none → ∀ r ∈ rows, Sat (climb rows n s) r
  | 0, s, h, h0 => by
    rcases h0 with h0 | h0
    · omega
    · exact absurd h h0
  | n + 1, s, h, _ => by
    unfold climb at h ⊢
    split
    · rename_i q
      exact rnd_rest q
    · rename_i q
      rw [if_neg q] at h
      exact climb_rest n _ h (.inr q)
theorem climbed_rest {c : Nat} {rows : List Rw} (h : (climbed c rows).ri = none) : ∀ r ∈ rows, Sat (climbed c rows) r := climb_rest (c + 1) _ h (.inl (by omega))
/-! ### lengths -/
theorem relx_len {s : CS} {r : Rw} : (relx s r).h.length = s.h.length ∧ (relx s r).l.length = s.l.length := by
  unfold relx
  split
  · exact ⟨List.length_set .., List.length_set ..⟩
  · exact ⟨rfl, rfl⟩
theorem fold_len2 : ∀ (rows : List Rw) (s : CS), (rows.foldl relx s).h.length = s.h.length ∧ (rows.foldl relx s).l.length = s.l.length
  | [], s => ⟨rfl, rfl⟩
  | r :: rows, s => by
    obtain ⟨h1, h2⟩ := fold_len2 rows (relx s r)
    obtain ⟨h3, h4⟩ := relx_len (s := s) (r := r)
    rw [List.foldl_cons]
    exact ⟨h1.trans h3, h2.trans h4⟩
theorem climb_len {rows : List Rw} : ∀ (n : Nat) (s : CS), (climb rows n s).h.length = s.h.length ∧ (climb rows n s).l.length = s.l.length
  | 0, s => ⟨rfl, rfl⟩
  | n + 1, s => by
    obtain ⟨h1, h2⟩ := fold_len2 rows { s with ri := none }
    unfold climb
    split
    · exact ⟨h1, h2⟩
    · obtain ⟨h3, h4⟩ := climb_len (rows := rows) n (rnd rows s)
      exact ⟨h3.trans h1, h4.trans h2⟩
theorem climbed_len {c : Nat} {rows : List Rw} : (climbed c rows).h.length = c ∧ (climbed c rows).l.length = c := by
  obtain ⟨h1, h2⟩ := climb_len (rows := rows) (c + 1) ⟨List.replicate c 0, List.replicate c none, none⟩
  exact ⟨h1.trans List.length_replicate, h2.trans List.length_replicate⟩
/-! ### the ring behind a house that rises for ever -/
def lst (s : CS) (v : Nat) : Option Rw := s.l.getD v none
def pre (s : CS) (v : Nat) : Nat := match lst s v with | some r => r.f | none => 0
def wt (s : CS) (v : Nat) : Int := match lst s v with | some r => r.w | none => 0
structure RowsOk (c : Nat) (rows : List Rw) : Prop where
  f : ∀ r ∈ rows, r.f < c
  t : ∀ r ∈ rows, r.t < c
  ne : ∀ r ∈ rows, r.f ≠ r.t
structure LvOk (c : Nat) (rows : List Rw) (s : CS) (lev : Nat → Nat) (q : Nat) : Prop where
  lh : s.h.length = c
  ll : s.l.length = c
  la : ∀ v r, lst s v = some r → r ∈ rows ∧ r.t = v ∧ lev v ≤ lev r.f + 1
  lb : ∀ v, v < c → 0 < lev v → ∃ r, lst s v = some r
  lc : ∀ v r, lst s v = some r → s.h.getD v 0 ≤ s.h.getD r.f 0 + r.w
  lq : ∀ v, lev v ≤ q
  cy : ∀ vs : List Nat, vs ≠ [] → vs.Nodup → (∀ v ∈ vs, ∃ r, lst s v = some r) → (vs.map (pre s)).Perm vs → 0 < (vs.map (wt s)).sum
theorem sum_le {α : Type} {f g : α → Int} : ∀ {l : List α}, (∀ x ∈ l, f x ≤ g x) → (l.map f).sum ≤ (l.map g).sum
  | [], _ => Int.le_refl _
  | x :: l, h => by
    rw [List.map_cons, List.map_cons, List.sum_cons, List.sum_cons]
    have := h x List.mem_cons_self
    have := sum_le (l := l) fun y hy => h y (List.mem_cons_of_mem _ hy)
    omega
theorem sum_lt {α : Type} {f g : α → Int} {y : α} : ∀ {l : List α}, (∀ x ∈ l, f x ≤ g x) → y ∈ l → f y < g y → (l.map f).sum < (l.map g).sum
  | x :: l, h, hy, hlt => by
    rw [List.map_cons, List.map_cons, List.sum_cons, List.sum_cons]
    have h1 := h x List.mem_cons_self
    have h2 := sum_le (l := l) fun y hy => h y (List.mem_cons_of_mem _ hy)
    rcases List.mem_cons.mp hy with rfl | hy
    · omega
    · have := sum_lt (l := l) (fun y hy => h y (List.mem_cons_of_mem _ hy)) hy hlt
      omega
theorem perm_sum {l m : List Int} (h : l.Perm m) : l.sum = m.sum := by
  induction h with
  | nil => rfl
  | cons x _ ih => rw [List.sum_cons, List.sum_cons, ih]
  | swap x y l => rw [List.sum_cons, List.sum_cons, List.sum_cons, List.sum_cons]; omega
  | trans _ _ i1 i2 => exact i1.trans i2
theorem getD_setO {l : List (Option Rw)} {i v : Nat} {x : Option Rw} : (l.set i x).getD v none = if i = v ∧ i < l.length then x else l.getD v none := by
  rw [List.getD_eq_getElem?_getD, List.getD_eq_getElem?_getD, List.getElem?_set]
  by_cases e : i = v
  · subst e
    by_cases hl : i < l.length
    · rw [if_pos rfl, if_pos hl, if_pos ⟨rfl, hl⟩] <;> rfl
    · rw [if_pos rfl, if_neg hl, if_neg (fun z => hl z.2), List.getElem?_eq_none (by omega)]
  · rw [if_neg e, if_neg (fun z => e z.1)]
theorem LvOk.step {c : Nat} {rows : List Rw} {s : CS} {lev : Nat → Nat} {q : Nat} {r : Rw} (R : RowsOk c rows) (k : LvOk c rows s lev q) (hr : r ∈ rows) (hlt : s.h.getD r.t 0 < s.h.getD r.f 0 + r.w) (hq : q ≤ lev r.f + 1) :
    LvOk c rows ⟨s.h.set r.t (s.h.getD r.f 0 + r.w), s.l.set r.t (some r), some r.t⟩ (fun v => if v = r.t then q else lev v) q := by
  have ht := R.t r hr
  have hne := R.ne r hr
  have gl : ∀ v, lst ⟨s.h.set r.t (s.h.getD r.f 0 + r.w), s.l.set r.t (some r), some r.t⟩ v = if v = r.t then some r else lst s v := by
    intro v
    show (s.l.set r.t (some r)).getD v none = _
    rw [getD_setO]
    by_cases e : v = r.t
    · rw [if_pos ⟨e.symm, by rw [k.ll]; exact ht⟩, if_pos e]
    · rw [if_neg (fun z => e z.1.symm), if_neg e] <;> rfl
  have gh : ∀ v, (s.h.set r.t (s.h.getD r.f 0 + r.w)).getD v 0 = if v = r.t then s.h.getD r.f 0 + r.w else s.h.getD v 0 := by
    intro v
    rw [getD_set_eq]
    by_cases e : v = r.t
    · rw [if_pos ⟨e.symm, by rw [k.lh]; exact ht⟩, if_pos e]
    · rw [if_neg (fun z => e z.1.symm), if_neg e]
  have hl : ∀ v, lev v ≤ (if v = r.t then q else lev v) := fun v => by
    split
    · exact k.lq v
    · exact Nat.le_refl _
  refine ⟨by rw [List.length_set]; exact k.lh, by rw [List.length_set]; exact k.ll, fun v r2 h => ?_, fun v hv h => ?_, fun v r2 h => ?_, fun v => ?_, fun vs h0 hnd hex hp => ?_⟩
  · rw [gl] at h
    by_cases e : v = r.t
    · rw [if_pos e] at h
      cases h
      refine ⟨hr, e.symm, ?_⟩
      rw [if_pos e, if_neg hne]
      exact hq
    · rw [if_neg e] at h
      obtain ⟨h1, h2, h3⟩ := k.la v r2 h
      refine ⟨h1, h2, ?_⟩
      rw [if_neg e]
      have := hl r2.f
      omega
  · rw [gl]
    by_cases e : v = r.t
    · exact ⟨r, by rw [if_pos e]⟩
    · rw [if_neg e] at h ⊢
      exact k.lb v hv h
  · rw [gl] at h
    show (s.h.set _ _).getD v 0 ≤ (s.h.set _ _).getD r2.f 0 + r2.w
    rw [gh, gh]
    by_cases e : v = r.t
    · rw [if_pos e] at h
      cases h
      rw [if_pos e, if_neg hne]
      omega
    · rw [if_neg e] at h ⊢
      have := k.lc v r2 h
      split
      · rename_i e2
        rw [← e2] at hlt
        rw [e2] at this
        rw [e2] at hlt
        omega
      · exact this
  · split
    · exact Nat.le_refl _
    · exact k.lq v
  · by_cases e : r.t ∈ vs
    · -- the ring runs through the house that just rose
      have e1 : ((vs.map (pre ⟨s.h.set r.t (s.h.getD r.f 0 + r.w), s.l.set r.t (some r), some r.t⟩)).map fun v => s.h.getD v 0).sum = (vs.map fun v => s.h.getD v 0).sum := perm_sum (hp.map _)
      rw [List.map_map] at e1
      have e2 : (vs.map fun v => s.h.getD v 0).sum < (vs.map fun v => s.h.getD (pre ⟨s.h.set r.t (s.h.getD r.f 0 + r.w), s.l.set r.t (some r), some r.t⟩ v) 0 + wt ⟨s.h.set r.t (s.h.getD r.f 0 + r.w), s.l.set r.t (some r), some r.t⟩ v).sum := by
        refine sum_lt (y := r.t) (fun v hv => ?_) e ?_
        · unfold pre wt
          rw [gl]
          by_cases e3 : v = r.t
          · rw [if_pos e3, e3]
            show _ ≤ s.h.getD r.f 0 + r.w
            omega
          · rw [if_neg e3]
            obtain ⟨r2, h2⟩ := hex v hv
            rw [gl, if_neg e3] at h2
            rw [h2]
            exact k.lc v r2 h2
        · unfold pre wt
          rw [gl, if_pos rfl]
          exact hlt
      rw [sum_add] at e2
      have e3 : ((vs.map ((fun v => s.h.getD v 0) ∘ pre ⟨s.h.set r.t (s.h.getD r.f 0 + r.w), s.l.set r.t (some r), some r.t⟩))).sum = (vs.map fun v => s.h.getD (pre ⟨s.h.set r.t (s.h.getD r.f 0 + r.w), s.l.set r.t (some r), some r.t⟩ v) 0).sum := rfl
      rw [e3] at e1
      rw [e1] at e2
      have e4 : (vs.map fun v => wt ⟨s.h.set r.t (s.h.getD r.f 0 + r.w), s.l.set r.t (some r), some r.t⟩ v).sum = (vs.map (wt ⟨s.h.set r.t (s.h.getD r.f 0 + r.w), s.l.set r.t (some r), some r.t⟩)).sum := rfl
      rw [e4] at e2
      omega
    · have gl' : ∀ v ∈ vs, lst ⟨s.h.set r.t (s.h.getD r.f 0 + r.w), s.l.set r.t (some r), some r.t⟩ v = lst s v := fun v hv => by rw [gl, if_neg (fun z : v = r.t => e (z ▸ hv))]
      have e1 : vs.map (pre ⟨s.h.set r.t (s.h.getD r.f 0 + r.w), s.l.set r.t (some r), some r.t⟩) = vs.map (pre s) := List.map_congr_left fun v hv => by unfold pre; rw [gl' v hv]
      have e2 : vs.map (wt ⟨s.h.set r.t (s.h.getD r.f 0 + r.w), s.l.set r.t (some r), some r.t⟩) = vs.map (wt s) := List.map_congr_left fun v hv => by unfold wt; rw [gl' v hv]
      rw [e1] at hp
      rw [e2]
      exact k.cy vs h0 hnd (fun v hv => by rw [← gl' v hv]; exact hex v hv) hp
/-- one round -/
theorem round_go {c : Nat} {rows : List Rw} {q : Nat} (R : RowsOk c rows) : ∀ (todo : List Rw) (s : CS) (lev : Nat → Nat) (D : List Rw), (∀ r ∈ todo, r ∈ rows) → LvOk c rows s lev q → (∀ r ∈ D, Sat s r ∨ q ≤ lev r.f) → (∀ r ∈ todo, Sat s r ∨ q ≤ lev r.f + 1) → (∀ v, s.ri = some v → lev v = q ∧ v < c) →
    ∃ lev', LvOk c rows (todo.foldl relx s) lev' q ∧ (∀ r, r ∈ D ∨ r ∈ todo → Sat (todo.foldl relx s) r ∨ q ≤ lev' r.f) ∧ ∀ v, (todo.foldl relx s).ri = some v → lev' v = q ∧ v < c
  | [], s, lev, D, _, k, hD, _, hri => ⟨lev, k, fun r hr => hr.elim (hD r) (fun z => nomatch z), hri⟩
  | r :: todo, s, lev, D, hin, k, hD, hT, hri => by
    have hr := hin r List.mem_cons_self
    have ht := R.t r hr
    have hne := R.ne r hr
    rw [List.foldl_cons]
    by_cases q1 : s.h.getD r.t 0 < s.h.getD r.f 0 + r.w
    · have e : relx s r = ⟨s.h.set r.t (s.h.getD r.f 0 + r.w), s.l.set r.t (some r), some r.t⟩ := by
        unfold relx
        rw [if_pos q1]
      have hq : q ≤ lev r.f + 1 := (hT r List.mem_cons_self).resolve_left fun z => by unfold Sat at z; omega
      have k1 := k.step R hr q1 hq
      rw [e]
      have gh : ∀ v, (s.h.set r.t (s.h.getD r.f 0 + r.w)).getD v 0 = if v = r.t then s.h.getD r.f 0 + r.w else s.h.getD v 0 := by
        intro v
        rw [getD_set_eq]
        by_cases e : v = r.t
        · rw [if_pos ⟨e.symm, by rw [k.lh]; exact ht⟩, if_pos e]
        · rw [if_neg (fun z => e z.1.symm), if_neg e]
      have up : ∀ r2 : Rw, Sat s r2 → r2.f ≠ r.t → Sat ⟨s.h.set r.t (s.h.getD r.f 0 + r.w), s.l.set r.t (some r), some r.t⟩ r2 := fun r2 h hf => by
        unfold Sat at h ⊢
        show (s.h.set _ _).getD r2.f 0 + r2.w ≤ (s.h.set _ _).getD r2.t 0
        rw [gh, gh, if_neg hf]
        split
        · rename_i e2
          rw [e2] at h
          omega
        · exact h
      obtain ⟨lev', i1, i2, i3⟩ := round_go R todo _ _ (r :: D) (fun x hx => hin x (List.mem_cons_of_mem _ hx)) k1 (fun r2 h2 => by
        rcases List.mem_cons.mp h2 with rfl | h2
        · left
          unfold Sat
          show (s.h.set _ _).getD r2.f 0 + r2.w ≤ (s.h.set _ _).getD r2.t 0
          rw [gh, gh, if_neg hne, if_pos rfl]
          exact Int.le_refl _
        · by_cases e2 : r2.f = r.t
          · right
            rw [if_pos e2]
            exact Nat.le_refl _
          · rw [if_neg e2]
            exact (hD r2 h2).imp (fun z => up r2 z e2) id) (fun r2 h2 => by
        by_cases e2 : r2.f = r.t
        · right
          rw [if_pos e2]
          omega
        · rw [if_neg e2]
          exact (hT r2 (List.mem_cons_of_mem _ h2)).imp (fun z => up r2 z e2) id) (fun v hv => by
        cases hv
        rw [if_pos rfl]
        exact ⟨rfl, ht⟩)
      refine ⟨lev', i1, fun r2 h2 => i2 r2 ?_, i3⟩
      rcases h2 with h2 | h2
      · exact .inl (List.mem_cons_of_mem _ h2)
      · rcases List.mem_cons.mp h2 with rfl | h2
        · exact .inl List.mem_cons_self
        · exact .inr h2
    · have e : relx s r = s := by
        unfold relx
        rw [if_neg q1]
      rw [e]
      obtain ⟨lev', i1, i2, i3⟩ := round_go R todo s lev (r :: D) (fun x hx => hin x (List.mem_cons_of_mem _ hx)) k (fun r2 h2 => by
        rcases List.mem_cons.mp h2 with rfl | h2
        · left
          unfold Sat
          omega
        · exact hD r2 h2) (fun r2 h2 => hT r2 (List.mem_cons_of_mem _ h2)) hri
      refine ⟨lev', i1, fun r2 h2 => i2 r2 ?_, i3⟩
      rcases h2 with h2 | h2
      · exact .inl (List.mem_cons_of_mem _ h2)
      · rcases List.mem_cons.mp h2 with rfl | h2
        · exact .inl List.mem_cons_self
        · exact .inr h2
theorem LvOk.up {c : Nat} {rows : List Rw} {s : CS} {lev : Nat → Nat} {q : Nat} (k : LvOk c rows s lev q) : LvOk c rows { s with ri := none } lev (q + 1) :=
  ⟨k.lh, k.ll, k.la, k.lb, k.lc, fun v => Nat.le_succ_of_le (k.lq v), k.cy⟩
theorem climb_go {c : Nat} {rows : List Rw} (R : RowsOk c rows) : ∀ (n : Nat) (s : CS) (lev : Nat → Nat) (q : Nat), LvOk c rows s lev q → (∀ r ∈ rows, Sat s r ∨ q ≤ lev r.f) → (∀ v, s.ri = some v → lev v = q ∧ v < c) →
    ∀ v, (climb rows n s).ri = some v → ∃ lev', LvOk c rows (climb rows n s) lev' (q + n) ∧ lev' v = q + n ∧ v < c
  | 0, s, lev, q, k, _, hri => fun v hv => ⟨lev, k, (hri v hv).1, (hri v hv).2⟩
  | n + 1, s, lev, q, k, hs, hri => by
    intro v hv
    obtain ⟨lev', i1, i2, i3⟩ := round_go (q := q + 1) R rows { s with ri := none } lev [] (fun _ h => h) k.up (fun _ h => nomatch h) (fun r hr => (hs r hr).imp id fun z => by omega) (fun v hv => nomatch hv)
    unfold climb at hv ⊢
    split at hv
    · rename_i q1
      rw [q1] at hv
      cases hv
    · rename_i q1
      rw [if_neg q1]
      obtain ⟨lev2, j1, j2, j3⟩ := climb_go R n (rnd rows s) lev' (q + 1) i1 (fun r hr => i2 r (.inr hr)) i3 v hv
      rw [show q + 1 + n = q + (n + 1) by omega] at j1 j2
      exact ⟨lev2, j1, j2, j3⟩
theorem climbed_go {c : Nat} {rows : List Rw} (R : RowsOk c rows) {v : Nat} (hv : (climbed c rows).ri = some v) : ∃ lev, LvOk c rows (climbed c rows) lev (c + 1) ∧ lev v = c + 1 ∧ v < c := by
  have l0 : ∀ v, lst ⟨List.replicate c 0, List.replicate c none, none⟩ v = none := fun v => by
    show (List.replicate c (none : Option Rw)).getD v none = none
    rw [List.getD_eq_getElem?_getD, List.getElem?_replicate]
    split <;> rfl
  have k0 : LvOk c rows ⟨List.replicate c 0, List.replicate c none, none⟩ (fun _ => 0) 0 := by
    refine ⟨List.length_replicate, List.length_replicate, fun v r h => ?_, fun v _ h => ?_, fun v r h => ?_, fun _ => Nat.le_refl _, fun vs h0 _ hex _ => ?_⟩
    · rw [l0] at h
      cases h
    · omega
    · rw [l0] at h
      cases h
    · cases vs with
      | nil => exact absurd rfl h0
      | cons x vs =>
        obtain ⟨r, h⟩ := hex x List.mem_cons_self
        rw [l0] at h
        cases h
  have := climb_go R (c + 1) _ _ 0 k0 (fun r _ => .inr (Nat.zero_le _)) (fun v h => nomatch h) v hv
  rw [Nat.zero_add] at this
  exact this
end Bk

set_option Elab.async false
set_option linter.all false
set_option maxRecDepth 100000
set_option maxHeartbeats 4000000
/-! M09: the ring of moves, the better cut -/
namespace Bk
def preN (s : CS) : Nat → Nat → Nat
  | 0, v => v
  | n + 1, v => preN s n (pre s v)
theorem preN_add (s : CS) : ∀ (a b v : Nat), preN s (a + b) v = preN s b (preN s a v)
  | 0, b, v => by rw [Nat.zero_add] <;> rfl
  | a + 1, b, v => by
    rw [show a + 1 + b = (a + b) + 1 by omega]
    show preN s (a + b) (pre s v) = preN s b (preN s a (pre s v))
    exact preN_add s a b (pre s v)
theorem preN_succ (s : CS) (n v : Nat) : preN s (n + 1) v = pre s (preN s n v) := preN_add s n 1 v
section
variable {c : Nat} {rows : List Rw} {s : CS} {lev : Nat → Nat} {q v u : Nat}
theorem LvOk.pre_ok (R : RowsOk c rows) (k : LvOk c rows s lev q) (hv : v < c) (hl : 0 < lev v) : (∃ r, lst s v = some r) ∧ pre s v < c ∧ lev v ≤ lev (pre s v) + 1 := by
  obtain ⟨r, h⟩ := k.lb v hv hl
  obtain ⟨h1, _, h3⟩ := k.la v r h
  have e : pre s v = r.f := by unfold pre; rw [h]
  rw [e]
  exact ⟨⟨r, h⟩, R.f r h1, h3⟩
theorem LvOk.walk (R : RowsOk c rows) (k : LvOk c rows s lev q) (hv : v < c) (hl : lev v = c + 1) : ∀ n, n ≤ c → preN s n v < c ∧ c + 1 ≤ lev (preN s n v) + n
  | 0, _ => ⟨hv, by show c + 1 ≤ lev v + 0; omega⟩
  | n + 1, hn => by
    obtain ⟨h1, h2⟩ := LvOk.walk R k hv hl n (by omega)
    obtain ⟨_, h3, h4⟩ := k.pre_ok R h1 (by omega)
    rw [preN_succ]
    exact ⟨h3, by omega⟩
theorem LvOk.has (R : RowsOk c rows) (k : LvOk c rows s lev q) (hv : v < c) (hl : lev v = c + 1) {n : Nat} (hn : n ≤ c) : ∃ r, lst s (preN s n v) = some r := by
  obtain ⟨h1, h2⟩ := k.walk R hv hl n hn
  exact (k.pre_ok R h1 (by omega)).1
/-- two of the houses walked through are one -/
theorem walk_twice (h : ∀ n, n ≤ c → preN s n v < c) : ∃ i j, i < j ∧ j ≤ c ∧ preN s i v = preN s j v := by
  by_cases q : ∃ i j, i < j ∧ j ≤ c ∧ preN s i v = preN s j v
  · exact q
  · exfalso
    have nd : ((List.range (c + 1)).map fun n => preN s n v).Nodup := by
      unfold List.Nodup
      rw [List.pairwise_map]
      refine List.Pairwise.imp_of_mem (fun {a b} ha hb hab e => ?_) (List.pairwise_lt_range (n := c + 1))
      have := List.mem_range.mp hb
      exact q ⟨a, b, hab, by omega, e⟩
    have := nodup_le (c := c) nd fun x hx => by
      obtain ⟨n, hn, rfl⟩ := List.mem_map.mp hx
      have := List.mem_range.mp hn
      exact h n (by omega)
    rw [List.length_map, List.length_range] at this
    omega
/-- the shortest way back -/
theorem least_back : ∀ (p : Nat), 0 < p → preN s p u = u → ∃ p0, 0 < p0 ∧ p0 ≤ p ∧ preN s p0 u = u ∧ ∀ k, 0 < k → k < p0 → preN s k u ≠ u := by
  intro p
  induction p using Nat.strongRecOn with
  | ind p ih =>
    intro hp he
    by_cases q : ∃ k, 0 < k ∧ k < p ∧ preN s k u = u
    · obtain ⟨k, h1, h2, h3⟩ := q
      obtain ⟨p0, i1, i2, i3, i4⟩ := ih k h2 h1 h3
      exact ⟨p0, i1, by omega, i3, i4⟩
    · exact ⟨p, hp, Nat.le_refl _, he, fun k h1 h2 h3 => q ⟨k, h1, h2, h3⟩⟩
/-- the ring of moves through the house u, p0 long -/
structure CycOk (c : Nat) (rows : List Rw) (s : CS) (u p0 : Nat) : Prop where
  pos : 0 < p0
  le : p0 ≤ c
  back : preN s p0 u = u
  min : ∀ k, 0 < k → k < p0 → preN s k u ≠ u
  has : ∀ k, k < p0 → ∃ r, lst s (preN s k u) = some r
  lt : ∀ k, k < p0 → preN s k u < c
theorem cyc_of (R : RowsOk c rows) (k : LvOk c rows s lev q) (hv : v < c) (hl : lev v = c + 1) : ∃ p0, CycOk c rows s (preN s c v) p0 := by
  obtain ⟨i, j, hij, hj, e⟩ := walk_twice (s := s) (v := v) fun n hn => (k.walk R hv hl n hn).1
  have hp : preN s (j - i) (preN s c v) = preN s c v := by
    have e1 : preN s (c + (j - i)) v = preN s (j - i) (preN s c v) := preN_add s c (j - i) v
    rw [← e1, show c + (j - i) = j + (c - i) by omega, preN_add, ← e, ← preN_add, show i + (c - i) = c by omega]
  obtain ⟨p0, h1, h2, h3, h4⟩ := least_back (s := s) (u := preN s c v) (j - i) (by omega) hp
  have back : ∀ n, ∃ n', n' ≤ c ∧ preN s n v = preN s n' v := by
    intro n
    induction n using Nat.strongRecOn with
    | ind n ih =>
      by_cases hn : n ≤ c
      · exact ⟨n, hn, rfl⟩
      · obtain ⟨n', h5, h6⟩ := ih (i + (n - j)) (by omega)
        refine ⟨n', h5, ?_⟩
        rw [← h6]
        have e1 : preN s n v = preN s (n - j) (preN s j v) := by
          rw [← preN_add, show j + (n - j) = n by omega]
        rw [e1, ← e, ← preN_add]
  refine ⟨p0, h1, by omega, h3, h4, fun n hn => ?_, fun n hn => ?_⟩
  · rw [← preN_add]
    obtain ⟨n', h5, h6⟩ := back (c + n)
    rw [h6]
    exact k.has R hv hl h5
  · rw [← preN_add]
    obtain ⟨n', h5, h6⟩ := back (c + n)
    rw [h6]
    exact (k.walk R hv hl n' h5).1
/-- the houses of the ring -/
def cycV (s : CS) (u p0 : Nat) : List Nat := (List.range p0).map fun k => preN s k u
theorem cyc_nodup {p0 : Nat} (C : CycOk c rows s u p0) : (cycV s u p0).Nodup := by
  unfold cycV List.Nodup
  rw [List.pairwise_map]
  refine List.Pairwise.imp_of_mem (fun {a b} ha hb hab e => ?_) (List.pairwise_lt_range (n := p0))
  have hb := List.mem_range.mp hb
  refine C.min (a + (p0 - b)) (by omega) (by omega) ?_
  rw [preN_add, e, ← preN_add, show b + (p0 - b) = p0 by omega]
  exact C.back
theorem cyc_perm {p0 : Nat} (C : CycOk c rows s u p0) : ((cycV s u p0).map (pre s)).Perm (cycV s u p0) := by
  have hp := C.pos
  obtain ⟨m, rfl⟩ : ∃ m, p0 = m + 1 := ⟨p0 - 1, by omega⟩
  have e1 : (cycV s u (m + 1)).map (pre s) = (List.range m).map (fun k => preN s (k + 1) u) ++ [u] := by
    unfold cycV
    rw [List.map_map, List.range_succ, List.map_append, List.map_singleton]
    congr 1
    · exact List.map_congr_left fun k _ => (preN_succ s k u).symm
    · show [pre s (preN s m u)] = [u]
      rw [← preN_succ, C.back]
  have e2 : cycV s u (m + 1) = u :: (List.range m).map fun k => preN s (k + 1) u := by
    unfold cycV
    rw [List.range_succ_eq_map, List.map_cons, List.map_map] <;> rfl
  rw [e1, e2]
  exact List.perm_append_singleton _ _
theorem cyc_ne {p0 : Nat} (C : CycOk c rows s u p0) : cycV s u p0 ≠ [] := by
  have := C.pos
  unfold cycV
  intro e
  have := congrArg List.length e
  rw [List.length_map, List.length_range, List.length_nil] at this
  omega
theorem cyc_has {p0 : Nat} (C : CycOk c rows s u p0) : ∀ v ∈ cycV s u p0, ∃ r, lst s v = some r := by
  intro v hv
  obtain ⟨k, hk, rfl⟩ := List.mem_map.mp hv
  exact C.has k (List.mem_range.mp hk)
/-- the moves of the ring -/
def r0 : Rw := ⟨0, 0, 0, 0, 0⟩
def rowOf (s : CS) (v : Nat) : Rw := (lst s v).getD r0
def cycR (s : CS) (u p0 : Nat) : List Rw := (cycV s u p0).map (rowOf s)
theorem rowOf_ok {v : Nat} {r : Rw} (h : lst s v = some r) : rowOf s v = r ∧ pre s v = r.f ∧ wt s v = r.w := by
  unfold rowOf pre wt
  rw [h]
  exact ⟨rfl, rfl, rfl⟩
end
/-! ### moves of a cut -/
structure MoveOk (ds : List Dt) (cut : List Int) (r : Rw) : Prop where
  n : r.n < ds.length
  pos : 0 < r.r
  d : (r.w = 1 ∧ r.f = dA ds r.n ∧ r.t = dB ds r.n ∧ r.r = dM ds r.n - cut.getD r.n 0) ∨ (r.w = -1 ∧ r.f = dB ds r.n ∧ r.t = dA ds r.n ∧ r.r = cut.getD r.n 0)
theorem movesAt_ok {ds : List Dt} {cut : List Int} {n : Nat} (hn : n < ds.length) : ∀ r ∈ movesAt ds cut n, r.n = n ∧ MoveOk ds cut r := by
  intro r hr
  unfold movesAt at hr
  rcases List.mem_append.mp hr with hr | hr
  · split at hr
    · rename_i q
      rw [List.mem_singleton.mp hr]
      exact ⟨rfl, hn, by show 0 < dM ds n - cut.getD n 0; omega, .inl ⟨rfl, rfl, rfl, rfl⟩⟩
    · cases hr
  · split at hr
    · rename_i q
      rw [List.mem_singleton.mp hr]
      exact ⟨rfl, hn, q, .inr ⟨rfl, rfl, rfl, rfl⟩⟩
    · cases hr
theorem movesOf_ok {ds : List Dt} {cut : List Int} : ∀ r ∈ movesOf ds cut, MoveOk ds cut r := by
  intro r hr
  obtain ⟨n, hn, hr⟩ := List.mem_flatMap.mp hr
  exact (movesAt_ok (List.mem_range.mp hn) r hr).2
theorem moves_rows {c : Nat} {ds : List Dt} {cut : List Int} (B : Book c ds) : RowsOk c (movesOf ds cut) := by
  have key : ∀ r ∈ movesOf ds cut, (r.f = dA ds r.n ∧ r.t = dB ds r.n ∨ r.f = dB ds r.n ∧ r.t = dA ds r.n) ∧ DtOk c (ds.getD r.n d0) := fun r hr => by
    have h := movesOf_ok r hr
    refine ⟨?_, B.ok _ (getD_mem h.n)⟩
    rcases h.d with ⟨_, h1, h2, _⟩ | ⟨_, h1, h2, _⟩
    · exact .inl ⟨h1, h2⟩
    · exact .inr ⟨h1, h2⟩
  refine ⟨fun r hr => ?_, fun r hr => ?_, fun r hr => ?_⟩
  · obtain ⟨h | h, k⟩ := key r hr
    · rw [h.1]
      exact k.a
    · rw [h.1]
      exact k.b
  · obtain ⟨h | h, k⟩ := key r hr
    · rw [h.2]
      exact k.b
    · rw [h.2]
      exact k.a
  · obtain ⟨h | h, k⟩ := key r hr
    · rw [h.1, h.2]
      exact k.ne
    · rw [h.1, h.2]
      exact fun e => k.ne e.symm
/-! ### the better cut -/
def addRow (k : Int) (y : List Int) (r : Rw) : List Int := y.set r.n (y.getD r.n 0 + k * r.w)
def gs (rs : List Rw) (n : Nat) : Int := (rs.map fun r => if r.n = n then r.w else 0).sum
theorem addRow_fold {k : Int} : ∀ (rs : List Rw) (y : List Int), (∀ r ∈ rs, r.n < y.length) → (rs.foldl (addRow k) y).length = y.length ∧ ∀ n, (rs.foldl (addRow k) y).getD n 0 = y.getD n 0 + k * gs rs n
  | [], y, _ => ⟨rfl, fun n => by show _ = _ + k * 0; rw [Int.mul_zero, Int.add_zero] <;> rfl⟩
  | r :: rs, y, h => by
    have hr := h r List.mem_cons_self
    have hl : (addRow k y r).length = y.length := by unfold addRow; rw [List.length_set]
    obtain ⟨h1, h2⟩ := addRow_fold (k := k) rs (addRow k y r) fun x hx => by rw [hl]; exact h x (List.mem_cons_of_mem _ hx)
    refine ⟨h1.trans hl, fun n => ?_⟩
    rw [List.foldl_cons, h2]
    unfold addRow gs
    rw [getD_set_eq, List.map_cons, List.sum_cons, Int.mul_add]
    by_cases e : r.n = n
    · rw [if_pos ⟨e, hr⟩, if_pos e, e]
      omega
    · rw [if_neg (fun z => e z.1), if_neg e]
      omega
/-- a sum over the numbers, move by move -/
theorem gs_sum {g : Nat → Int} {m : Nat} : ∀ {rs : List Rw}, (∀ r ∈ rs, r.n < m) → ((List.range m).map fun n => gs rs n * g n).sum = (rs.map fun r => r.w * g r.n).sum
  | [], _ => by
    refine sum_zero fun n _ => ?_
    show 0 * g n = 0
    omega
  | r :: rs, h => by
    have ih := gs_sum (g := g) (m := m) (rs := rs) fun x hx => h x (List.mem_cons_of_mem _ hx)
    have one := sum_count (g := fun n => r.w * g n) (m := m) (r := [r.n]) fun n hn => by rw [List.mem_singleton.mp hn]; exact h r List.mem_cons_self
    rw [List.map_singleton, List.sum_singleton] at one
    rw [List.map_cons, List.sum_cons, ← ih, ← one, ← sum_add]
    refine sum_congr fun n _ => ?_
    rw [inR_one (by simp)]
    unfold gs
    rw [List.map_cons, List.sum_cons, Int.add_mul]
    by_cases e : r.n = n
    · rw [if_pos e, if_pos (by rw [e]; simp)]
      omega
    · rw [if_neg e, if_neg (fun z => e (List.mem_singleton.mp z).symm)]
      omega
theorem sum_getD {l : List Int} : l.sum = ((List.range l.length).map fun n => l.getD n 0).sum := by
  congr 1
  apply List.ext_getElem (by rw [List.length_map, List.length_range])
  intro n h1 h2
  rw [List.getElem_map, List.getElem_range, List.getD_eq_getElem?_getD, List.getElem?_eq_getElem h1] <;> rfl
/-- each number stands in one move of the ring at most -/
theorem cyc_numbers {c : Nat} {ds : List Dt} {cut : List Int} {s : CS} {lev : Nat → Nat} {q u p0 : Nat} (B : Book c ds) (k : LvOk c (movesOf ds cut) s lev q) (C : CycOk c (movesOf ds cut) s u p0) : ((cycR s u p0).map (·.n)).Nodup := by
  have hnd := cyc_nodup C
  unfold cycR List.Nodup
  rw [List.map_map, List.pairwise_map]
  refine List.Pairwise.imp_of_mem (fun {a b} ha hb hab e => ?_) hnd
  obtain ⟨ra, h1⟩ := cyc_has C a ha
  obtain ⟨rb, h2⟩ := cyc_has C b hb
  obtain ⟨m1, t1, _⟩ := k.la a ra h1
  obtain ⟨m2, t2, _⟩ := k.la b rb h2
  obtain ⟨e1, p1, w1⟩ := rowOf_ok h1
  obtain ⟨e2, p2, w2⟩ := rowOf_ok h2
  have e : (rowOf s a).n = (rowOf s b).n := e
  rw [e1, e2] at e
  have k1 := movesOf_ok ra m1
  have k2 := movesOf_ok rb m2
  have d1 := k1.d
  have d2 := k2.d
  rw [← e] at d2
  have opp : ra.w + rb.w = 0 ∧ ra.f = rb.t ∧ rb.f = ra.t := by
    rcases d1 with ⟨a1, a2, a3, _⟩ | ⟨a1, a2, a3, _⟩ <;> rcases d2 with ⟨b1, b2, b3, _⟩ | ⟨b1, b2, b3, _⟩
    · exact absurd (t1.symm.trans (a3.trans (b3.symm.trans t2))) hab
    · exact ⟨by omega, by rw [a2, b3], by rw [b2, a3]⟩
    · exact ⟨by omega, by rw [a2, b3], by rw [b2, a3]⟩
    · exact absurd (t1.symm.trans (a3.trans (b3.symm.trans t2))) hab
  have hcy := k.cy [a, b] (by simp) (by simp [hab]) (fun v hv => by
    rcases List.mem_cons.mp hv with rfl | hv
    · exact ⟨ra, h1⟩
    · rw [List.mem_singleton.mp hv]
      exact ⟨rb, h2⟩) (by
    show [pre s a, pre s b].Perm [a, b]
    rw [p1, p2, opp.2.1, opp.2.2, t1, t2]
    exact List.Perm.swap _ _ _)
  have hcy : 0 < [wt s a, wt s b].sum := hcy
  rw [w1, w2, List.sum_cons, List.sum_cons, List.sum_nil] at hcy
  have := opp.1
  omega
def leastR (rs : List Rw) : Int := least (rs.map (·.r))
def betterCut (rs : List Rw) (cut : List Int) : List Int := rs.foldl (addRow (leastR rs)) cut
structure BetterOk (c : Nat) (ds : List Dt) (cut f : List Int) : Prop where
  k : CutOk ds f
  e : evenB c ds f = true
  s : cut.sum < f.sum
theorem gs_one : ∀ {rs : List Rw}, (rs.map (·.n)).Nodup → ∀ r ∈ rs, gs rs r.n = r.w
  | r :: rs, nd, x, hx => by
    rw [List.map_cons, List.nodup_cons] at nd
    unfold gs
    rw [List.map_cons, List.sum_cons]
    rcases List.mem_cons.mp hx with rfl | hx
    · rw [if_pos rfl, sum_zero fun y hy => if_neg fun e => nd.1 (List.mem_map.mpr ⟨y, hy, e⟩)]
      omega
    · rw [if_neg (fun e => nd.1 (List.mem_map.mpr ⟨x, hx, e.symm⟩))]
      have := gs_one nd.2 x hx
      unfold gs at this
      omega
theorem gs_none {rs : List Rw} {n : Nat} (h : ∀ r ∈ rs, r.n ≠ n) : gs rs n = 0 := sum_zero fun r hr => if_neg (h r hr)
theorem better_ok {c : Nat} {ds : List Dt} {cut : List Int} {s : CS} {lev : Nat → Nat} {q u p0 : Nat} (B : Book c ds) (kc : CutOk ds cut) (he : evenB c ds cut = true) (k : LvOk c (movesOf ds cut) s lev q) (C : CycOk c (movesOf ds cut) s u p0) : BetterOk c ds cut (betterCut (cycR s u p0) cut) := by
  have hb : ∀ d ∈ ds, d.a < c ∧ d.b < c := fun d hd => ⟨(B.ok d hd).a, (B.ok d hd).b⟩
  have nd := cyc_numbers B k C
  have hrow : ∀ r ∈ cycR s u p0, ∃ v ∈ cycV s u p0, lst s v = some r ∧ MoveOk ds cut r := by
    intro r hr
    obtain ⟨v, hv, rfl⟩ := List.mem_map.mp hr
    obtain ⟨r, h⟩ := cyc_has C v hv
    rw [(rowOf_ok h).1]
    exact ⟨v, hv, h, movesOf_ok r (k.la v r h).1⟩
  have hne : 0 < ((cycR s u p0).map (·.r)).length := by
    unfold cycR cycV
    rw [List.length_map, List.length_map, List.length_map, List.length_range]
    exact C.pos
  obtain ⟨m1, m2⟩ := least_ok hne
  have hk : 0 < leastR (cycR s u p0) := by
    obtain ⟨r, hr, e⟩ := List.mem_map.mp m1
    obtain ⟨_, _, _, mo⟩ := hrow r hr
    have := mo.pos
    unfold leastR
    omega
  have hle : ∀ r ∈ cycR s u p0, leastR (cycR s u p0) ≤ r.r := fun r hr => m2 _ (List.mem_map.mpr ⟨r, hr, rfl⟩)
  have hwpos : 0 < ((cycR s u p0).map (·.w)).sum := by
    have h := k.cy _ (cyc_ne C) (cyc_nodup C) (cyc_has C) (cyc_perm C)
    have e : (cycR s u p0).map (·.w) = (cycV s u p0).map (wt s) := by
      unfold cycR
      rw [List.map_map]
      refine List.map_congr_left fun v hv => ?_
      obtain ⟨r, h⟩ := cyc_has C v hv
      obtain ⟨e1, _, e3⟩ := rowOf_ok h
      show (rowOf s v).w = _
      rw [e1, e3]
    rw [e]
    exact h
  have hflow : ∀ g : Nat → Int, ((cycR s u p0).map fun r => g r.t - g r.f).sum = 0 := by
    intro g
    have e : (cycR s u p0).map (fun r => g r.t - g r.f) = (cycV s u p0).map fun v => g v - g (pre s v) := by
      unfold cycR
      rw [List.map_map]
      refine List.map_congr_left fun v hv => ?_
      obtain ⟨r, h⟩ := cyc_has C v hv
      obtain ⟨e1, e2, _⟩ := rowOf_ok h
      show g (rowOf s v).t - g (rowOf s v).f = _
      rw [e1, e2, (k.la v r h).2.1]
    rw [e, sum_sub]
    have := perm_sum ((cyc_perm C).map g)
    rw [List.map_map] at this
    have e2 : ((cycV s u p0).map fun v => g (pre s v)).sum = ((cycV s u p0).map g).sum := this
    rw [e2]
    omega
  have hmo : ∀ r ∈ cycR s u p0, MoveOk ds cut r := fun r hr => by
    obtain ⟨_, _, _, h⟩ := hrow r hr
    exact h
  unfold betterCut
  clear hrow hne m1 m2
  generalize leastR (cycR s u p0) = m at hk hle ⊢
  generalize cycR s u p0 = rs at nd hle hwpos hflow hmo ⊢
  obtain ⟨f1, f2⟩ := addRow_fold (k := m) rs cut fun r hr => by rw [kc.len]; exact (hmo r hr).n
  have val : ∀ n, n < ds.length → (gs rs n = 0) ∨ ∃ r ∈ rs, r.n = n ∧ gs rs n = r.w := by
    intro n _
    by_cases z : ∃ r ∈ rs, r.n = n
    · obtain ⟨r, hr, e⟩ := z
      exact .inr ⟨r, hr, e, by rw [← e]; exact gs_one nd r hr⟩
    · exact .inl (gs_none fun r hr e => z ⟨r, hr, e⟩)
  refine ⟨⟨by rw [f1, kc.len], fun n hn => ?_, fun n hn => ?_⟩, ?_, ?_⟩
  · rw [f2]
    have h1 := kc.lo n hn
    rcases val n hn with z | ⟨r, hr, e, z⟩
    · rw [z]
      omega
    · have mo := hmo r hr
      have hl := hle r hr
      rcases mo.d with ⟨w, _, _, e2⟩ | ⟨w, _, _, e2⟩
      · rw [z, w]
        omega
      · rw [z, w]
        rw [e] at e2
        omega
  · rw [f2]
    have h1 := kc.hi n hn
    rcases val n hn with z | ⟨r, hr, e, z⟩
    · rw [z]
      omega
    · have mo := hmo r hr
      have hl := hle r hr
      rcases mo.d with ⟨w, _, _, e2⟩ | ⟨w, _, _, e2⟩
      · rw [z, w]
        rw [e] at e2
        omega
      · rw [z, w]
        omega
  · rw [even_iff hb]
    intro h
    rw [gain_congr (g := fun n => cut.getD n 0 + m * gs rs n) fun n _ => f2 n, gain_add, gain_mul, (even_iff hb).mp he h]
    have e1 : gain ds (gs rs) h = (rs.map fun r => r.w * (at1 (dB ds r.n) h - at1 (dA ds r.n) h)).sum := gs_sum (g := fun n => at1 (dB ds n) h - at1 (dA ds n) h) fun r hr => (hmo r hr).n
    have e2 : (rs.map fun r => r.w * (at1 (dB ds r.n) h - at1 (dA ds r.n) h)).sum = (rs.map fun r => at1 r.t h - at1 r.f h).sum := sum_congr fun r hr => by
      rcases (hmo r hr).d with ⟨w, e3, e4, _⟩ | ⟨w, e3, e4, _⟩
      · rw [w, e3, e4]
        omega
      · rw [w, e3, e4]
        omega
    rw [e1, e2, hflow fun v => at1 v h]
    omega
  · rw [sum_getD (l := rs.foldl (addRow m) cut), sum_getD (l := cut), f1]
    have e1 : ((List.range cut.length).map fun n => (rs.foldl (addRow m) cut).getD n 0).sum = ((List.range cut.length).map fun n => cut.getD n 0 + m * (gs rs n * 1)).sum := sum_congr fun n _ => by rw [f2, Int.mul_one]
    rw [e1, sum_add, sum_mul, gs_sum (g := fun _ => 1) fun r hr => by rw [kc.len]; exact (hmo r hr).n]
    have e2 : (rs.map fun r => r.w * 1).sum = (rs.map (·.w)).sum := sum_congr fun r _ => Int.mul_one _
    rw [e2]
    have := Int.mul_pos hk hwpos
    omega
/-! prices -/
def showPos (ds : List Dt) (cut p : List Int) : Prop := ∀ n, n < ds.length → (cut.getD n 0 < dM ds n → 1 + p.getD (dA ds n) 0 - p.getD (dB ds n) 0 ≤ 0) ∧ (0 < cut.getD n 0 → 0 ≤ 1 + p.getD (dA ds n) 0 - p.getD (dB ds n) 0)
theorem prices_show {ds : List Dt} {cut : List Int} {s : CS} (h : ∀ r ∈ movesOf ds cut, Sat s r) : showPos ds cut s.h := by
  intro n hn
  refine ⟨fun q => ?_, fun q => ?_⟩
  · have := h ⟨dA ds n, dB ds n, 1, n, dM ds n - cut.getD n 0⟩ (List.mem_flatMap.mpr ⟨n, List.mem_range.mpr hn, by unfold movesAt; rw [if_pos q]; exact List.mem_append_left _ List.mem_cons_self⟩)
    unfold Sat at this
    dsimp only at this
    omega
  · have := h ⟨dB ds n, dA ds n, -1, n, cut.getD n 0⟩ (List.mem_flatMap.mpr ⟨n, List.mem_range.mpr hn, by unfold movesAt; rw [if_pos q]; exact List.mem_append_right _ List.mem_cons_self⟩)
    unfold Sat at this
    dsimp only at this
    omega
end Bk

set_option Elab.async false
set_option linter.all false
set_option maxRecDepth 100000
set_option maxHeartbeats 4000000
/-! M10: the cheapest ways from houses that have too little -/
namespace Bk
/-- prices that fit what is kept -/
structure PotOk (ds : List Dt) (kept : List Int) (P : Nat → Int) : Prop where
  up : ∀ n, n < ds.length → kept.getD n 0 < dM ds n → P (dB ds n) ≤ P (dA ds n) + 1
  dn : ∀ n, n < ds.length → 0 < kept.getD n 0 → P (dA ds n) + 1 ≤ P (dB ds n)
theorem PotOk.row {ds : List Dt} {kept : List Int} {P : Nat → Int} {r : Rw} (p : PotOk ds kept P) (h : MoveOk ds kept r) : P r.t ≤ P r.f + r.w := by
  have hp := h.pos
  rcases h.d with ⟨h1, h2, h3, h4⟩ | ⟨h1, h2, h3, h4⟩
  · have := p.up r.n h.n (by omega)
    rw [h1, h2, h3]
    exact this
  · have := p.dn r.n h.n (by omega)
    rw [h1, h2, h3]
    omega
structure NS where
  co : List (Option Int)
  la : List (Option Rw)
  ag : Bool
def gC (s : NS) (h : Nat) : Option Int := s.co.getD h none
def gL (s : NS) (h : Nat) : Option Rw := s.la.getD h none
def btO (o : Option Int) (x : Int) : Bool := match o with
  | none => true
  | some y => decide (x < y)
def putN (s : NS) (r : Rw) (x : Int) : NS := ⟨s.co.set r.t (some (x + 1000 * r.w + 1)), s.la.set r.t (some r), true⟩
def relN (s : NS) (r : Rw) : NS := match gC s r.f with
  | none => s
  | some x => if btO (gC s r.t) (x + 1000 * r.w + 1) = true then putN s r x else s
/-- the row is content -/
def SatN (s : NS) (r : Rw) : Prop := ∀ x, gC s r.f = some x → ∃ y, gC s r.t = some y ∧ y ≤ x + 1000 * r.w + 1
theorem relN_or (s : NS) (r : Rw) : (relN s r = s ∧ SatN s r) ∨ ∃ x, gC s r.f = some x ∧ btO (gC s r.t) (x + 1000 * r.w + 1) = true ∧ relN s r = putN s r x := by
  unfold relN
  cases e : gC s r.f with
  | none => exact .inl ⟨rfl, fun x h => by rw [e] at h; cases h⟩
  | some x =>
    dsimp only
    by_cases q : btO (gC s r.t) (x + 1000 * r.w + 1) = true
    · rw [if_pos q]
      exact .inr ⟨x, rfl, q, rfl⟩
    · rw [if_neg q]
      refine .inl ⟨rfl, fun x' h => ?_⟩
      rw [e] at h
      cases h
      cases e2 : gC s r.t with
      | none =>
        rw [e2] at q
        exact absurd rfl q
      | some y =>
        rw [e2] at q
        refine ⟨y, rfl, ?_⟩
        have : ¬ (x + 1000 * r.w + 1 < y) := fun z => q (decide_eq_true z)
        omega
structure NInv (c : Nat) (rows : List Rw) (rs : Nat → Int) (P : Nat → Int) (B : Int) (s : NS) : Prop where
  lc : s.co.length = c
  ll : s.la.length = c
  lb : ∀ h y, gC s h = some y → 1000 * P h ≤ y + B
  sr : ∀ h, h < c → 0 < rs h → ∃ y, gC s h = some y
  no : ∀ h y, gL s h = none → gC s h = some y → y = 0 ∧ 0 < rs h
  ye : ∀ h r, gL s h = some r → r ∈ rows ∧ r.t = h ∧ ∃ x y, gC s r.f = some x ∧ gC s h = some y ∧ x + 1000 * r.w + 1 ≤ y
theorem getD_setC {l : List (Option Int)} {i v : Nat} {x : Option Int} : (l.set i x).getD v none = if i = v ∧ i < l.length then x else l.getD v none := by
  rw [List.getD_eq_getElem?_getD, List.getD_eq_getElem?_getD, List.getElem?_set]
  by_cases e : i = v
  · subst e
    by_cases hl : i < l.length
    · rw [if_pos rfl, if_pos hl, if_pos ⟨rfl, hl⟩] <;> rfl
    · rw [if_pos rfl, if_neg hl, if_neg (fun z => hl z.2), List.getElem?_eq_none (by omega)]
  · rw [if_neg e, if_neg (fun z => e z.1)]
def m1 (c : Nat) (s : NS) : Int := ((List.range c).map fun h => if (gC s h).isNone = true then (1 : Int) else 0).sum
def cst (P : Nat → Int) (B : Int) (s : NS) (h : Nat) : Int := match gC s h with
  | none => 0
  | some y => y + B - 1000 * P h
def m2 (c : Nat) (P : Nat → Int) (B : Int) (s : NS) : Int := ((List.range c).map fun h => cst P B s h).sum
def Down (c : Nat) (P : Nat → Int) (B : Int) (s s' : NS) : Prop := m1 c s' < m1 c s ∨ (m1 c s' = m1 c s ∧ m2 c P B s' < m2 c P B s)
theorem Down.trans {c : Nat} {P : Nat → Int} {B : Int} {s s1 s2 : NS} (a : Down c P B s s1) (b : Down c P B s1 s2) : Down c P B s s2 := by
  unfold Down at a b ⊢
  omega
theorem sum_nn {α : Type} {f : α → Int} {l : List α} (h : ∀ x ∈ l, 0 ≤ f x) : 0 ≤ (l.map f).sum := by
  have := sum_le (f := fun _ : α => (0 : Int)) (g := f) (l := l) h
  rw [sum_zero fun _ _ => rfl] at this
  exact this
theorem m1_nn {c : Nat} {s : NS} : 0 ≤ m1 c s := sum_nn fun h _ => by split <;> omega
section
variable {c : Nat} {rows : List Rw} {rs : Nat → Int} {P : Nat → Int} {B : Int} {s s' : NS} {r : Rw} {x : Int}
theorem NInv.m2_nn (k : NInv c rows rs P B s) : 0 ≤ m2 c P B s := sum_nn fun h _ => by
  unfold cst
  cases e : gC s h with
  | none => exact Int.le_refl _
  | some y =>
    have := k.lb h y e
    show 0 ≤ y + B - 1000 * P h
    omega
theorem put_C (k : NInv c rows rs P B s) (ht : r.t < c) (h : Nat) : gC (putN s r x) h = if h = r.t then some (x + 1000 * r.w + 1) else gC s h := by
  show (s.co.set r.t _).getD h none = _
  rw [getD_setC, k.lc]
  by_cases e : h = r.t
  · rw [if_pos ⟨e.symm, ht⟩, if_pos e]
  · rw [if_neg (fun z => e z.1.symm), if_neg e] <;> rfl
theorem put_L (k : NInv c rows rs P B s) (ht : r.t < c) (h : Nat) : gL (putN s r x) h = if h = r.t then some r else gL s h := by
  show (s.la.set r.t _).getD h none = _
  rw [getD_setO, k.ll]
  by_cases e : h = r.t
  · rw [if_pos ⟨e.symm, ht⟩, if_pos e]
  · rw [if_neg (fun z => e z.1.symm), if_neg e] <;> rfl
theorem NInv.put (R : RowsOk c rows) (hp : ∀ r ∈ rows, P r.t ≤ P r.f + r.w) (k : NInv c rows rs P B s) (hr : r ∈ rows) (hx : gC s r.f = some x) (hb : btO (gC s r.t) (x + 1000 * r.w + 1) = true) :
    NInv c rows rs P B (putN s r x) ∧ Down c P B s (putN s r x) := by
  have ht := R.t r hr
  have hne := R.ne r hr
  have gc := fun h => put_C (x := x) k ht h
  have gl := fun h => put_L (x := x) k ht h
  have low : ∀ y, gC s r.t = some y → x + 1000 * r.w + 1 < y := fun y e => by
    rw [e] at hb
    exact of_decide_eq_true hb
  have hlb : 1000 * P r.t ≤ x + 1000 * r.w + 1 + B := by
    have h1 := k.lb r.f x hx
    have h2 := hp r hr
    omega
  refine ⟨⟨by show (s.co.set _ _).length = c; rw [List.length_set]; exact k.lc, by show (s.la.set _ _).length = c; rw [List.length_set]; exact k.ll, fun h y e => ?_, fun h hh h0 => ?_, fun h y e1 e2 => ?_, fun h r2 e => ?_⟩, ?_⟩
  · rw [gc] at e
    split at e
    · rename_i q
      cases e
      rw [q]
      exact hlb
    · exact k.lb h y e
  · rw [gc]
    split
    · exact ⟨_, rfl⟩
    · exact k.sr h hh h0
  · rw [gl] at e1
    rw [gc] at e2
    split at e1
    · cases e1
    · rename_i q
      rw [if_neg q] at e2
      exact k.no h y e1 e2
  · rw [gl] at e
    by_cases q : h = r.t
    · rw [if_pos q] at e
      cases e
      refine ⟨hr, q.symm, x, x + 1000 * r.w + 1, ?_, ?_, Int.le_refl _⟩
      · rw [gc, if_neg hne]
        exact hx
      · rw [gc, if_pos q]
    · rw [if_neg q] at e
      obtain ⟨h1, h2, x', y', h3, h4, h5⟩ := k.ye h r2 e
      by_cases q2 : r2.f = r.t
      · refine ⟨h1, h2, x + 1000 * r.w + 1, y', by rw [gc, if_pos q2], by rw [gc, if_neg q]; exact h4, ?_⟩
        have := low x' (by rw [← q2]; exact h3)
        omega
      · exact ⟨h1, h2, x', y', by rw [gc, if_neg q2]; exact h3, by rw [gc, if_neg q]; exact h4, h5⟩
  · cases e : gC s r.t with
    | none =>
      left
      refine sum_lt (y := r.t) (fun h _ => ?_) (List.mem_range.mpr ht) ?_
      · rw [gc]
        by_cases q : h = r.t
        · rw [if_pos q, q, e]
          show (0 : Int) ≤ 1
          omega
        · rw [if_neg q]
          exact Int.le_refl _
      · rw [gc, if_pos rfl, e]
        show (0 : Int) < 1
        omega
    | some y =>
      right
      have hl := low y e
      refine ⟨sum_congr fun h _ => ?_, sum_lt (y := r.t) (fun h _ => ?_) (List.mem_range.mpr ht) ?_⟩
      · rw [gc]
        by_cases q : h = r.t
        · rw [if_pos q, q, e] <;> rfl
        · rw [if_neg q]
      · unfold cst
        rw [gc]
        by_cases q : h = r.t
        · rw [if_pos q, q, e]
          show x + 1000 * r.w + 1 + B - 1000 * P r.t ≤ y + B - 1000 * P r.t
          omega
        · rw [if_neg q]
          exact Int.le_refl _
      · unfold cst
        rw [gc, if_pos rfl, e]
        show x + 1000 * r.w + 1 + B - 1000 * P r.t < y + B - 1000 * P r.t
        omega
theorem relN_len : (relN s r).co.length = s.co.length ∧ (relN s r).la.length = s.la.length := by
  rcases relN_or s r with ⟨e, _⟩ | ⟨x, _, _, e⟩
  · rw [e]
    exact ⟨rfl, rfl⟩
  · rw [e]
    exact ⟨List.length_set .., List.length_set ..⟩
theorem foldN (R : RowsOk c rows) (hp : ∀ r ∈ rows, P r.t ≤ P r.f + r.w) : ∀ (todo : List Rw) (s : NS), (∀ r ∈ todo, r ∈ rows) → NInv c rows rs P B s →
    NInv c rows rs P B (todo.foldl relN s) ∧ ((todo.foldl relN s = s ∧ ∀ r ∈ todo, SatN s r) ∨ (Down c P B s (todo.foldl relN s) ∧ (todo.foldl relN s).ag = true))
  | [], s, _, k => ⟨k, .inl ⟨rfl, fun _ z => nomatch z⟩⟩
  | r :: todo, s, h, k => by
    have hr := h r List.mem_cons_self
    have h' : ∀ x ∈ todo, x ∈ rows := fun x hx => h x (List.mem_cons_of_mem _ hx)
    rw [List.foldl_cons]
    rcases relN_or s r with ⟨e, q⟩ | ⟨x, hx, hb, e⟩
    · rw [e]
      obtain ⟨i1, i2⟩ := foldN R hp todo s h' k
      refine ⟨i1, ?_⟩
      rcases i2 with ⟨i2, i3⟩ | i2
      · refine .inl ⟨i2, fun x hx => ?_⟩
        rcases List.mem_cons.mp hx with rfl | hx
        · exact q
        · exact i3 x hx
      · exact .inr i2
    · rw [e]
      obtain ⟨k1, d1⟩ := k.put R hp hr hx hb
      obtain ⟨i1, i2⟩ := foldN R hp todo _ h' k1
      refine ⟨i1, .inr ?_⟩
      rcases i2 with ⟨i2, _⟩ | ⟨i2, i3⟩
      · rw [i2]
        exact ⟨d1, rfl⟩
      · exact ⟨d1.trans i2, i3⟩
def nrnd (rows : List Rw) (s : NS) : NS := rows.foldl relN { s with ag := false }
def nIt (rows : List Rw) : Nat → NS → NS
  | 0, s => s
  | n + 1, s => if s.ag = true then nIt rows n (nrnd rows s) else s
theorem NInv.ag (k : NInv c rows rs P B s) (b : Bool) : NInv c rows rs P B { s with ag := b } := ⟨k.lc, k.ll, k.lb, k.sr, k.no, k.ye⟩
theorem nrnd_ok (R : RowsOk c rows) (hp : ∀ r ∈ rows, P r.t ≤ P r.f + r.w) (k : NInv c rows rs P B s) :
    NInv c rows rs P B (nrnd rows s) ∧ (((nrnd rows s).ag = false ∧ ∀ r ∈ rows, SatN (nrnd rows s) r) ∨ Down c P B s (nrnd rows s)) := by
  obtain ⟨h1, h2⟩ := foldN R hp rows { s with ag := false } (fun _ h => h) (k.ag false)
  refine ⟨h1, ?_⟩
  rcases h2 with ⟨h2, h3⟩ | ⟨h2, _⟩
  · left
    unfold nrnd
    rw [h2]
    exact ⟨rfl, h3⟩
  · exact .inr h2
theorem nIt_stop (R : RowsOk c rows) (hp : ∀ r ∈ rows, P r.t ≤ P r.f + r.w) : ∀ (a b : Nat) (s : NS), NInv c rows rs P B s → (m1 c s).toNat = a → (m2 c P B s).toNat = b → ∃ n, (nIt rows n s).ag = false := by
  intro a
  induction a using Nat.strongRecOn with
  | ind a iha =>
    intro b
    induction b using Nat.strongRecOn with
    | ind b ihb =>
      intro s k ha hb
      obtain ⟨k1, h⟩ := nrnd_ok R hp k
      have st : (∃ n, (nIt rows n (nrnd rows s)).ag = false) → ∃ n, (nIt rows n s).ag = false := fun ⟨n, e⟩ => by
        by_cases q : s.ag = true
        · refine ⟨n + 1, ?_⟩
          unfold nIt
          rw [if_pos q]
          exact e
        · exact ⟨0, Bool.eq_false_iff.mpr q⟩
      have n1 := m1_nn (c := c) (s := nrnd rows s)
      have n2 := k1.m2_nn
      rcases h with ⟨h, _⟩ | h
      · exact st ⟨0, h⟩
      · rcases h with d | ⟨d1, d2⟩
        · exact st (iha (m1 c (nrnd rows s)).toNat (by omega) _ _ k1 rfl rfl)
        · exact st (ihb (m2 c P B (nrnd rows s)).toNat (by omega) _ k1 (by omega) rfl)
theorem nIt_ok (R : RowsOk c rows) (hp : ∀ r ∈ rows, P r.t ≤ P r.f + r.w) : ∀ (n : Nat) (s : NS), NInv c rows rs P B s → (s.ag = true ∨ ∀ r ∈ rows, SatN s r) → NInv c rows rs P B (nIt rows n s) ∧ ((nIt rows n s).ag = true ∨ ∀ r ∈ rows, SatN (nIt rows n s) r)
  | 0, s, k, h => ⟨k, h⟩
  | n + 1, s, k, h => by
    unfold nIt
    by_cases q : s.ag = true
    · rw [if_pos q]
      obtain ⟨k1, h1⟩ := nrnd_ok R hp k
      refine nIt_ok R hp n _ k1 ?_
      by_cases q2 : (nrnd rows s).ag = true
      · exact .inl q2
      · obtain ⟨_, h2⟩ := foldN R hp rows { s with ag := false } (fun _ h => h) (k.ag false)
        rcases h2 with ⟨h2, h3⟩ | ⟨_, h3⟩
        · right
          unfold nrnd
          rw [h2]
          exact h3
        · exact absurd h3 q2
    · rw [if_neg q]
      exact ⟨k, h⟩
/-- where the search begins -/
def n0 (c : Nat) (rs : Nat → Int) : NS := ⟨(List.range c).map fun h => if 0 < rs h then some 0 else none, List.replicate c none, true⟩
theorem n0_ok (hB : ∀ h, h < c → 1000 * P h ≤ B) : NInv c rows rs P B (n0 c rs) := by
  have gc : ∀ h, gC (n0 c rs) h = if h < c ∧ 0 < rs h then some 0 else none := by
    intro h
    unfold gC n0
    dsimp only
    rw [List.getD_eq_getElem?_getD, List.getElem?_map]
    by_cases q : h < c
    · rw [List.getElem?_range q]
      show (if 0 < rs h then some (0 : Int) else none) = _
      by_cases q2 : 0 < rs h
      · rw [if_pos q2, if_pos ⟨q, q2⟩]
      · rw [if_neg q2, if_neg (fun z => q2 z.2)]
    · rw [List.getElem?_eq_none (by rw [List.length_range]; omega), if_neg (fun z => q z.1)] <;> rfl
  have gl : ∀ h, gL (n0 c rs) h = none := by
    intro h
    show (List.replicate c (none : Option Rw)).getD h none = none
    rw [List.getD_eq_getElem?_getD, List.getElem?_replicate]
    split <;> rfl
  refine ⟨by unfold n0; simp, by unfold n0; simp, fun h y e => ?_, fun h hh h0 => ?_, fun h y _ e => ?_, fun h r e => ?_⟩
  · rw [gc] at e
    split at e
    · rename_i q
      cases e
      have := hB h q.1
      omega
    · cases e
  · rw [gc, if_pos ⟨hh, h0⟩]
    exact ⟨_, rfl⟩
  · rw [gc] at e
    split at e
    · rename_i q
      cases e
      exact ⟨rfl, q.2⟩
    · cases e
  · rw [gl] at e
    cases e
/-- how many rounds -/
noncomputable def nRounds (c : Nat) (rows : List Rw) (rs : Nat → Int) : Nat := Classical.epsilon fun n => (nIt rows n (n0 c rs)).ag = false
noncomputable def near (c : Nat) (rows : List Rw) (rs : Nat → Int) : NS := nIt rows (nRounds c rows rs) (n0 c rs)
/-- numbers have a bound -/
theorem bound_ex (g : Nat → Int) : ∀ c : Nat, ∃ B : Int, ∀ n, n < c → g n ≤ B
  | 0 => ⟨0, fun n h => by omega⟩
  | c + 1 => by
    obtain ⟨B, h⟩ := bound_ex g c
    by_cases q : g c ≤ B
    · refine ⟨B, fun n hn => ?_⟩
      by_cases e : n = c
      · rw [e]; exact q
      · exact h n (by omega)
    · refine ⟨g c, fun n hn => ?_⟩
      by_cases e : n = c
      · rw [e]; exact Int.le_refl _
      · have := h n (by omega)
        omega
/-- what the search ends with -/
structure NearOk (c : Nat) (rows : List Rw) (rs : Nat → Int) (P : Nat → Int) (s : NS) : Prop where
  lc : s.co.length = c
  ll : s.la.length = c
  sr : ∀ h, h < c → 0 < rs h → ∃ y, gC s h = some y
  no : ∀ h y, gL s h = none → gC s h = some y → y = 0 ∧ 0 < rs h
  ye : ∀ h r, gL s h = some r → r ∈ rows ∧ r.t = h ∧ ∃ x y, gC s r.f = some x ∧ gC s h = some y ∧ y = x + 1000 * r.w + 1
  sat : ∀ r ∈ rows, SatN s r
  pot : ∀ r ∈ rows, P r.t ≤ P r.f + r.w
theorem near_stops (R : RowsOk c rows) (hp : ∀ r ∈ rows, P r.t ≤ P r.f + r.w) : (near c rows rs).ag = false := by
  obtain ⟨B, hB⟩ := bound_ex (fun h => 1000 * P h) c
  have := nIt_stop (rs := rs) (B := B) R hp _ _ (n0 c rs) (n0_ok hB) rfl rfl
  exact Classical.epsilon_spec this
theorem near_ok (R : RowsOk c rows) (hp : ∀ r ∈ rows, P r.t ≤ P r.f + r.w) : NearOk c rows rs P (near c rows rs) := by
  have hs := near_stops (rs := rs) R hp
  obtain ⟨B, hB⟩ := bound_ex (fun h => 1000 * P h) c
  obtain ⟨k, h⟩ := nIt_ok (rs := rs) (B := B) R hp (nRounds c rows rs) (n0 c rs) (n0_ok hB) (.inl rfl)
  have sat : ∀ r ∈ rows, SatN (near c rows rs) r := h.resolve_left fun z => by
    have : (near c rows rs).ag = true := z
    rw [hs] at this
    cases this
  refine ⟨k.lc, k.ll, k.sr, k.no, fun h r e => ?_, sat, hp⟩
  obtain ⟨h1, h2, x, y, h3, h4, h5⟩ := k.ye h r e
  refine ⟨h1, h2, x, y, h3, h4, ?_⟩
  obtain ⟨y', e1, e2⟩ := sat r h1 x h3
  rw [h2] at e1
  have h4' : gC (near c rows rs) h = some y := h4
  rw [h4'] at e1
  cases e1
  omega
end
/-! ### the way back -/
def nCS (s : NS) : CS := ⟨[], s.la, none⟩
section
variable {c : Nat} {rows : List Rw} {rs : Nat → Int} {P : Nat → Int} {s : NS} {h : Nat} {y : Int}
theorem reach_lt (k : NearOk c rows rs P s) (e : gC s h = some y) : h < c := by
  rcases Nat.lt_or_ge h c with q | q
  · exact q
  · unfold gC at e
    rw [List.getD_eq_getElem?_getD, List.getElem?_eq_none (by rw [k.lc]; exact q)] at e
    cases e
def sumW (S : CS) (h : Nat) : Nat → Int
  | 0 => 0
  | n + 1 => sumW S h n + wt S (preN S n h)
/-- walking back along moves -/
theorem way_go (k : NearOk c rows rs P s) (e : gC s h = some y) : ∀ j, (∀ i, i < j → gL s (preN (nCS s) i h) ≠ none) → ∃ x, gC s (preN (nCS s) j h) = some x ∧ y = x + 1000 * sumW (nCS s) h j + (j : Int)
  | 0, _ => ⟨y, e, by show y = y + 1000 * 0 + 0; omega⟩
  | j + 1, hj => by
    obtain ⟨x, h1, h2⟩ := way_go k e j fun i hi => hj i (by omega)
    cases e2 : gL s (preN (nCS s) j h) with
    | none => exact absurd e2 (hj j (by omega))
    | some r =>
      have e3 : lst (nCS s) (preN (nCS s) j h) = some r := e2
      obtain ⟨_, p2, p3⟩ := rowOf_ok e3
      obtain ⟨_, _, x', y', h3, h4, h5⟩ := k.ye _ r e2
      rw [h1] at h4
      cases h4
      rw [preN_succ, p2]
      refine ⟨x', h3, ?_⟩
      unfold sumW
      rw [p3]
      omega
def eOf (P : Nat → Int) (s : NS) (h : Nat) : Int := (gC s h).getD 0 - 1000 * P h
theorem way_dn (k : NearOk c rows rs P s) (e : gC s h = some y) : ∀ d i, (∀ j, j < i + d → gL s (preN (nCS s) j h) ≠ none) → eOf P s (preN (nCS s) (i + d) h) + (d : Int) ≤ eOf P s (preN (nCS s) i h)
  | 0, i, _ => by
    show eOf P s (preN (nCS s) i h) + 0 ≤ _
    omega
  | d + 1, i, hj => by
    have ih := way_dn k e d i fun j hj' => hj j (by omega)
    obtain ⟨x, h1, h2⟩ := way_go k e (i + d) fun j hj' => hj j (by omega)
    cases e2 : gL s (preN (nCS s) (i + d) h) with
    | none => exact absurd e2 (hj (i + d) (by omega))
    | some r =>
      have e3 : lst (nCS s) (preN (nCS s) (i + d) h) = some r := e2
      obtain ⟨_, p2, p3⟩ := rowOf_ok e3
      obtain ⟨m, tt, x', y', h3, h4, h5⟩ := k.ye _ r e2
      have pp := k.pot r m
      have e4 : eOf P s (preN (nCS s) (i + (d + 1)) h) + 1 ≤ eOf P s (preN (nCS s) (i + d) h) := by
        rw [show i + (d + 1) = i + d + 1 by omega, preN_succ, p2]
        unfold eOf
        rw [h3, h4]
        show x' - 1000 * P r.f + 1 ≤ y' - 1000 * P (preN (nCS s) (i + d) h)
        rw [tt] at pp
        omega
      omega
theorem way_ne (k : NearOk c rows rs P s) (e : gC s h = some y) {i j : Nat} (hij : i < j) (hj : ∀ n, n < j → gL s (preN (nCS s) n h) ≠ none) : preN (nCS s) i h ≠ preN (nCS s) j h := by
  intro q
  have := way_dn k e (j - i) i fun n hn => hj n (by omega)
  rw [show i + (j - i) = j by omega, ← q] at this
  omega
/-- the way ends -/
theorem way_end (k : NearOk c rows rs P s) (e : gC s h = some y) : ∃ n, n < c ∧ gL s (preN (nCS s) n h) = none ∧ ∀ i, i < n → gL s (preN (nCS s) i h) ≠ none := by
  have some_none : ∃ n, n < c ∧ gL s (preN (nCS s) n h) = none := by
    by_cases q : ∃ n, n < c ∧ gL s (preN (nCS s) n h) = none
    · exact q
    · exfalso
      have all : ∀ n, n < c → gL s (preN (nCS s) n h) ≠ none := fun n hn z => q ⟨n, hn, z⟩
      obtain ⟨i, j, h1, h2, h3⟩ := walk_twice (s := nCS s) (v := h) (c := c) fun n hn => by
        obtain ⟨x, h1, _⟩ := way_go k e n fun i hi => all i (by omega)
        exact reach_lt k h1
      exact way_ne k e h1 (fun n hn => all n (by omega)) h3
  obtain ⟨n, hn, hz⟩ := some_none
  induction n using Nat.strongRecOn with
  | ind n ih =>
    by_cases q : ∃ i, i < n ∧ gL s (preN (nCS s) i h) = none
    · obtain ⟨i, h1, h2⟩ := q
      exact ih i h1 (by omega) h2
    · exact ⟨n, hn, hz, fun i hi z => q ⟨i, hi, z⟩⟩
theorem cost_mod (k : NearOk c rows rs P s) (hc : c ≤ 20) (e : gC s h = some y) : y % 1000 < 20 := by
  obtain ⟨n, h1, h2, h3⟩ := way_end k e
  obtain ⟨x, h4, h5⟩ := way_go k e n h3
  have := (k.no _ x h2 h4).1
  omega
end
end Bk

set_option Elab.async false
set_option linter.all false
set_option maxRecDepth 100000
set_option maxHeartbeats 4000000
/-! M11: a best cut, way by way -/
namespace Bk
/-! ### sums house by house -/
theorem sum_swap {F : Nat → Nat → Int} {m : Nat} : ∀ c : Nat, ((List.range c).map fun h => ((List.range m).map fun n => F n h).sum).sum = ((List.range m).map fun n => ((List.range c).map fun h => F n h).sum).sum
  | 0 => (sum_zero fun n _ => rfl).symm
  | c + 1 => by
    rw [List.range_succ, List.map_append, List.sum_append, List.map_singleton, List.sum_singleton, sum_swap c, ← sum_add]
    refine sum_congr fun n _ => ?_
    rw [List.map_append, List.sum_append, List.map_singleton, List.sum_singleton]
theorem at1_sum {X : Nat → Int} {x : Nat} : ∀ c : Nat, x < c → ((List.range c).map fun h => X h * at1 x h).sum = X x
  | 0, h => by omega
  | c + 1, h => by
    rw [List.range_succ, List.map_append, List.sum_append, List.map_singleton, List.sum_singleton]
    unfold at1
    by_cases e : x = c
    · subst e
      rw [if_pos rfl, sum_zero fun n hn => by
        have := List.mem_range.mp hn
        rw [if_neg (by omega), Int.mul_zero]]
      omega
    · rw [if_neg e]
      have := at1_sum (X := X) (x := x) c (by omega)
      unfold at1 at this
      rw [this]
      omega
theorem gain_sum {ds : List Dt} {c : Nat} {X f : Nat → Int} (hb : ∀ d ∈ ds, d.a < c ∧ d.b < c) : ((List.range c).map fun h => X h * gain ds f h).sum = ((List.range ds.length).map fun n => f n * (X (dB ds n) - X (dA ds n))).sum := by
  have e1 : ((List.range c).map fun h => X h * gain ds f h).sum = ((List.range c).map fun h => ((List.range ds.length).map fun n => X h * (f n * (at1 (dB ds n) h - at1 (dA ds n) h))).sum).sum := sum_congr fun h _ => by
    unfold gain
    rw [sum_mul]
  rw [e1, sum_swap (F := fun n h => X h * (f n * (at1 (dB ds n) h - at1 (dA ds n) h)))]
  refine sum_congr fun n hn => ?_
  have hd : dA ds n < c ∧ dB ds n < c := hb _ (getD_mem (List.mem_range.mp hn))
  have e2 : ((List.range c).map fun h => X h * (f n * (at1 (dB ds n) h - at1 (dA ds n) h))).sum = ((List.range c).map fun h => f n * (X h * at1 (dB ds n) h - X h * at1 (dA ds n) h)).sum := sum_congr fun h _ => by
    rw [← Int.mul_sub, Int.mul_left_comm]
  rw [e2, sum_mul, sum_sub, at1_sum c hd.2, at1_sum c hd.1] <;> rfl
/-! ### what even cuts are worth by prices -/
theorem lure_sum {ds : List Dt} {c : Nat} {f : List Int} {P : Nat → Int} (hb : ∀ d ∈ ds, d.a < c ∧ d.b < c) (hl : f.length = ds.length) (he : evenB c ds f = true) : ((List.range ds.length).map fun n => f.getD n 0 * (1 + P (dA ds n) - P (dB ds n))).sum = f.sum := by
  have g0 := gain_sum (X := P) (f := fun n => f.getD n 0) hb
  rw [sum_zero fun h _ => by rw [(even_iff hb).mp he h, Int.mul_zero]] at g0
  rw [sum_getD (l := f), hl]
  have e : ((List.range ds.length).map fun n => f.getD n 0 * (1 + P (dA ds n) - P (dB ds n))).sum = ((List.range ds.length).map fun n => f.getD n 0 - f.getD n 0 * (P (dB ds n) - P (dA ds n))).sum := sum_congr fun n _ => by
    rw [Int.mul_sub, Int.mul_sub, Int.mul_add]
    omega
  rw [e, sum_sub, ← g0]
  omega
structure BestOk (c : Nat) (ds : List Dt) (f : List Int) (P : Nat → Int) : Prop where
  k : CutOk ds f
  e : evenB c ds f = true
  lo : ∀ n, n < ds.length → f.getD n 0 < dM ds n → 1 + P (dA ds n) - P (dB ds n) ≤ 0
  hi : ∀ n, n < ds.length → 0 < f.getD n 0 → 0 ≤ 1 + P (dA ds n) - P (dB ds n)
theorem BestOk.max {ds : List Dt} {c : Nat} {f g : List Int} {P : Nat → Int} (b : BestOk c ds f P) (hb : ∀ d ∈ ds, d.a < c ∧ d.b < c) (k : CutOk ds g) (he : evenB c ds g = true) : g.sum ≤ f.sum := by
  rw [← lure_sum (P := P) hb k.len he, ← lure_sum (P := P) hb b.k.len b.e]
  refine sum_le fun n hn => ?_
  have hn := List.mem_range.mp hn
  have h1 := b.lo n hn
  have h2 := b.hi n hn
  have h3 := k.lo n hn
  have h4 := k.hi n hn
  have h5 := b.k.lo n hn
  rcases Int.lt_trichotomy (1 + P (dA ds n) - P (dB ds n)) 0 with q | q | q
  · have e : f.getD n 0 = 0 := by
      rcases Int.lt_or_le 0 (f.getD n 0) with z | z
      · have := h2 z
        omega
      · omega
    rw [e, Int.zero_mul]
    exact Int.mul_nonpos_of_nonneg_of_nonpos h3 (by omega)
  · rw [q, Int.mul_zero, Int.mul_zero]
    exact Int.le_refl _
  · have e : dM ds n ≤ f.getD n 0 := by
      rcases Int.lt_or_le (f.getD n 0) (dM ds n) with z | z
      · have := h1 z
        omega
      · exact z
    exact Int.mul_le_mul_of_nonneg_right (by omega) (by omega)
/-! ### one way -/
structure BS where
  kept : List Int
  rs : List Int
def argB (bt : Nat → Nat → Bool) : Nat → Nat
  | 0 => 0
  | n + 1 => if bt (n + 1) (argB bt n) = true then n + 1 else argB bt n
theorem argB_le (bt : Nat → Nat → Bool) : ∀ n, argB bt n ≤ n
  | 0 => Nat.le_refl _
  | n + 1 => by
    unfold argB
    split
    · exact Nat.le_refl _
    · exact Nat.le_succ_of_le (argB_le bt n)
def endsOf (c : Nat) (rs : List Int) (s : NS) : List Nat := (List.range c).filter fun h => decide (rs.getD h 0 < 0) && (gC s h).isSome
def keyOf (s : NS) (l : List Nat) (i : Nat) : Int := (gC s (l.getD i 0)).getD 0
def pickE (s : NS) (l : List Nat) : Nat := l.getD (argB (fun i j => decide (keyOf s l i < keyOf s l j)) (l.length - 1)) 0
theorem pickE_mem {s : NS} {l : List Nat} (h : 0 < l.length) : pickE s l ∈ l := getD_memN (by
  have := argB_le (fun i j => decide (keyOf s l i < keyOf s l j)) (l.length - 1)
  omega)
noncomputable def wayN (s : NS) (h : Nat) : Nat := Classical.epsilon fun n => gL s (preN (nCS s) n h) = none ∧ ∀ i, i < n → gL s (preN (nCS s) i h) ≠ none
def wayR (s : NS) (h n : Nat) : List Rw := (List.range n).map fun i => rowOf (nCS s) (preN (nCS s) i h)
noncomputable def bNear (c : Nat) (ds : List Dt) (b : BS) : NS := near c (movesOf ds b.kept) fun h => b.rs.getD h 0
noncomputable def bHouse (c : Nat) (ds : List Dt) (b : BS) : Nat := pickE (bNear c ds b) (endsOf c b.rs (bNear c ds b))
noncomputable def bN (c : Nat) (ds : List Dt) (b : BS) : Nat := wayN (bNear c ds b) (bHouse c ds b)
noncomputable def bRows (c : Nat) (ds : List Dt) (b : BS) : List Rw := wayR (bNear c ds b) (bHouse c ds b) (bN c ds b)
noncomputable def bAt (c : Nat) (ds : List Dt) (b : BS) : Nat := preN (nCS (bNear c ds b)) (bN c ds b) (bHouse c ds b)
noncomputable def bMany (c : Nat) (ds : List Dt) (b : BS) : Int := least ([-(b.rs.getD (bHouse c ds b) 0), b.rs.getD (bAt c ds b) 0] ++ (bRows c ds b).map (·.r))
def rsStep (rs : List Int) (house at_ : Nat) (many : Int) : List Int := (rs.set house (rs.getD house 0 + many)).set at_ ((rs.set house (rs.getD house 0 + many)).getD at_ 0 - many)
noncomputable def bStep (c : Nat) (ds : List Dt) (b : BS) : BS := ⟨(bRows c ds b).foldl (addRow (bMany c ds b)) b.kept, rsStep b.rs (bHouse c ds b) (bAt c ds b) (bMany c ds b)⟩
structure BInv (c : Nat) (ds : List Dt) (b : BS) : Prop where
  cut : CutOk ds b.kept
  lr : b.rs.length = c
  eq : ∀ h, b.rs.getD h 0 = gain ds (fun n => b.kept.getD n 0 - dM ds n) h
  pot : ∃ P, PotOk ds b.kept P
theorem moves_mem1 {ds : List Dt} {f : List Int} {n : Nat} (hn : n < ds.length) (h : f.getD n 0 < dM ds n) : (⟨dA ds n, dB ds n, 1, n, dM ds n - f.getD n 0⟩ : Rw) ∈ movesOf ds f :=
  List.mem_flatMap.mpr ⟨n, List.mem_range.mpr hn, by unfold movesAt; rw [if_pos h]; exact List.mem_append_left _ List.mem_cons_self⟩
theorem moves_mem2 {ds : List Dt} {f : List Int} {n : Nat} (hn : n < ds.length) (h : 0 < f.getD n 0) : (⟨dB ds n, dA ds n, -1, n, f.getD n 0⟩ : Rw) ∈ movesOf ds f :=
  List.mem_flatMap.mpr ⟨n, List.mem_range.mpr hn, by unfold movesAt; rw [if_pos h]; exact List.mem_append_right _ List.mem_cons_self⟩
theorem book_ab {c : Nat} {ds : List Dt} (B : Book c ds) : ∀ d ∈ ds, d.a < c ∧ d.b < c := fun d hd => ⟨(B.ok d hd).a, (B.ok d hd).b⟩
/-- a house that is owed can be reached -/
theorem ends_ne {c : Nat} {ds : List Dt} {b : BS} {P : Nat → Int} {s : NS} (B : Book c ds) (k : BInv c ds b) (N : NearOk c (movesOf ds b.kept) (fun h => b.rs.getD h 0) P s) (hp : ∃ h, 0 < b.rs.getD h 0) : 0 < (endsOf c b.rs s).length := by
  rcases Nat.eq_zero_or_pos (endsOf c b.rs s).length with q | q
  · exfalso
    have nil := List.length_eq_zero_iff.mp q
    have no : ∀ h, h < c → (gC s h).isSome = true → 0 ≤ b.rs.getD h 0 := by
      intro h hh e
      rcases Int.lt_or_le (b.rs.getD h 0) 0 with z | z
      · have : h ∈ endsOf c b.rs s := List.mem_filter.mpr ⟨List.mem_range.mpr hh, by rw [decide_eq_true z, e] <;> rfl⟩
        rw [nil] at this
        cases this
      · exact z
    obtain ⟨h0, hp⟩ := hp
    have hlt : h0 < c := by
      rcases Nat.lt_or_ge h0 c with z | z
      · exact z
      · rw [List.getD_eq_getElem?_getD, List.getElem?_eq_none (by rw [k.lr]; exact z)] at hp
        exact absurd hp (by decide)
    obtain ⟨y, hy⟩ := N.sr h0 hlt hp
    have s1 : 0 < ((List.range c).map fun h => (if (gC s h).isSome = true then (1 : Int) else 0) * b.rs.getD h 0).sum := by
      have := sum_lt (f := fun _ : Nat => (0 : Int)) (g := fun h => (if (gC s h).isSome = true then (1 : Int) else 0) * b.rs.getD h 0) (l := List.range c) (y := h0) (fun h hh => by
        have hh := List.mem_range.mp hh
        show (0 : Int) ≤ _
        by_cases e : (gC s h).isSome = true
        · rw [if_pos e, Int.one_mul]
          exact no h hh e
        · rw [if_neg e, Int.zero_mul]
          exact Int.le_refl _) (List.mem_range.mpr hlt) (by
        show (0 : Int) < _
        rw [if_pos (by rw [hy] <;> rfl), Int.one_mul]
        exact hp)
      rw [sum_zero fun _ _ => rfl] at this
      exact this
    have e1 : ((List.range c).map fun h => (if (gC s h).isSome = true then (1 : Int) else 0) * b.rs.getD h 0).sum = ((List.range c).map fun h => (if (gC s h).isSome = true then (1 : Int) else 0) * gain ds (fun n => b.kept.getD n 0 - dM ds n) h).sum := sum_congr fun h _ => by rw [k.eq]
    rw [e1, gain_sum (X := fun h => if (gC s h).isSome = true then (1 : Int) else 0) (book_ab B)] at s1
    have s2 := sum_le (f := fun n => (b.kept.getD n 0 - dM ds n) * ((if (gC s (dB ds n)).isSome = true then (1 : Int) else 0) - if (gC s (dA ds n)).isSome = true then (1 : Int) else 0)) (g := fun _ : Nat => (0 : Int)) (l := List.range ds.length) (fun n hn => by
      have hn := List.mem_range.mp hn
      have hi := k.cut.hi n hn
      show _ ≤ (0 : Int)
      by_cases e : b.kept.getD n 0 < dM ds n
      · by_cases ea : (gC s (dA ds n)).isSome = true
        · obtain ⟨x, hx⟩ := Option.isSome_iff_exists.mp ea
          obtain ⟨y, hy, _⟩ := N.sat _ (moves_mem1 hn e) x hx
          rw [if_pos ea, if_pos (show (gC s (dB ds n)).isSome = true by rw [show gC s (dB ds n) = some y from hy] <;> rfl)]
          simp
        · rw [if_neg ea]
          split
          · omega
          · omega
      · rw [show b.kept.getD n 0 - dM ds n = 0 by omega, Int.zero_mul]
        exact Int.le_refl _)
    rw [sum_zero (f := fun _ : Nat => (0 : Int)) fun _ _ => rfl] at s2
    omega
  · exact q
/-- the moves of a way -/
structure WayK (ds : List Dt) (kept : List Int) (c : Nat) (s : NS) (h n : Nat) (P : Nat → Int) : Prop where
  nl : n < c
  en : gL s (preN (nCS s) n h) = none
  go : ∀ i, i < n → ∃ r, gL s (preN (nCS s) i h) = some r ∧ rowOf (nCS s) (preN (nCS s) i h) = r ∧ r ∈ movesOf ds kept ∧ r.t = preN (nCS s) i h ∧ r.f = preN (nCS s) (i + 1) h
  lt : ∀ i, i ≤ n → preN (nCS s) i h < c
  ne : ∀ i j, i < j → j ≤ n → preN (nCS s) i h ≠ preN (nCS s) j h
theorem way_ok {c : Nat} {ds : List Dt} {kept : List Int} {rs : Nat → Int} {P : Nat → Int} {s : NS} {h : Nat} {y : Int} (N : NearOk c (movesOf ds kept) rs P s) (e : gC s h = some y) : WayK ds kept c s h (wayN s h) P ∧ 0 < rs (preN (nCS s) (wayN s h) h) := by
  obtain ⟨n0, a1, a2, a3⟩ := way_end N e
  obtain ⟨h1, h2⟩ : gL s (preN (nCS s) (wayN s h) h) = none ∧ ∀ i, i < wayN s h → gL s (preN (nCS s) i h) ≠ none := Classical.epsilon_spec (p := fun n => gL s (preN (nCS s) n h) = none ∧ ∀ i, i < n → gL s (preN (nCS s) i h) ≠ none) ⟨n0, a2, a3⟩
  generalize wayN s h = n at h1 h2 ⊢
  have en : n = n0 := by
    rcases Nat.lt_trichotomy n n0 with z | z | z
    · exact absurd h1 (a3 n z)
    · exact z
    · exact absurd a2 (h2 n0 z)
  obtain ⟨x, w1, _⟩ := way_go N e n h2
  refine ⟨⟨by omega, h1, fun i hi => ?_, fun i hi => ?_, fun i j hij hj => ?_⟩, (N.no _ x h1 w1).2⟩
  · cases e2 : gL s (preN (nCS s) i h) with
    | none => exact absurd e2 (h2 i hi)
    | some r =>
      have e3 : lst (nCS s) (preN (nCS s) i h) = some r := e2
      obtain ⟨p1, p2, _⟩ := rowOf_ok e3
      obtain ⟨m, tt, _⟩ := N.ye _ r e2
      exact ⟨r, rfl, p1, m, tt, by rw [preN_succ, p2]⟩
  · obtain ⟨x, w1, _⟩ := way_go N e i fun j hj => h2 j (by omega)
    exact reach_lt N w1
  · exact way_ne N e hij fun m hm => h2 m (by omega)
theorem WayK.row {c : Nat} {ds : List Dt} {kept : List Int} {P : Nat → Int} {s : NS} {h n : Nat} (w : WayK ds kept c s h n P) : ∀ r ∈ wayR s h n, ∃ i, i < n ∧ gL s (preN (nCS s) i h) = some r ∧ r ∈ movesOf ds kept ∧ r.t = preN (nCS s) i h ∧ r.f = preN (nCS s) (i + 1) h := by
  intro r hr
  obtain ⟨i, hi, e⟩ := List.mem_map.mp hr
  have hi := List.mem_range.mp hi
  obtain ⟨r', h1, h2, h3⟩ := w.go i hi
  rw [h2] at e
  subst e
  exact ⟨i, hi, h1, h3⟩
theorem WayK.nums {c : Nat} {ds : List Dt} {kept : List Int} {P : Nat → Int} {s : NS} {h n : Nat} (w : WayK ds kept c s h n P) : ((wayR s h n).map (·.n)).Nodup := by
  unfold wayR List.Nodup
  rw [List.map_map, List.pairwise_map]
  refine List.Pairwise.imp_of_mem (fun {i j} hi hj hij e => ?_) (List.pairwise_lt_range (n := n))
  have hi := List.mem_range.mp hi
  have hj := List.mem_range.mp hj
  obtain ⟨r1, _, e1, m1, t1, f1⟩ := w.go i hi
  obtain ⟨r2, _, e2, m2, t2, f2⟩ := w.go j hj
  have e : (rowOf (nCS s) (preN (nCS s) i h)).n = (rowOf (nCS s) (preN (nCS s) j h)).n := e
  rw [e1, e2] at e
  have d1 := (movesOf_ok r1 m1).d
  have d2 := (movesOf_ok r2 m2).d
  rw [← e] at d2
  have n1 := w.ne i j hij (by omega)
  have n2 := w.ne i (j + 1) (by omega) (by omega)
  rcases d1 with ⟨_, a2, a3, _⟩ | ⟨_, a2, a3, _⟩ <;> rcases d2 with ⟨_, b2, b3, _⟩ | ⟨_, b2, b3, _⟩
  · exact n1 (by rw [← t1, ← t2, a3, b3])
  · exact n2 (by rw [← t1, ← f2, a3, b2])
  · exact n2 (by rw [← t1, ← f2, a3, b2])
  · exact n1 (by rw [← t1, ← t2, a3, b3])
theorem WayK.flow {c : Nat} {ds : List Dt} {kept : List Int} {P : Nat → Int} {s : NS} {h : Nat} (g : Nat → Int) : ∀ {n : Nat}, (∀ i, i < n → ∃ r, gL s (preN (nCS s) i h) = some r ∧ rowOf (nCS s) (preN (nCS s) i h) = r ∧ r ∈ movesOf ds kept ∧ r.t = preN (nCS s) i h ∧ r.f = preN (nCS s) (i + 1) h) →
    ((wayR s h n).map fun r => g r.t - g r.f).sum = g h - g (preN (nCS s) n h)
  | 0, _ => by
    show (0 : Int) = g h - g h
    omega
  | n + 1, w => by
    have ih := WayK.flow (c := c) (P := P) g (n := n) fun i hi => w i (by omega)
    obtain ⟨r, _, e, _, t1, f1⟩ := w n (by omega)
    unfold wayR at ih ⊢
    rw [List.range_succ, List.map_append, List.map_append, List.sum_append, ih, List.map_singleton, List.map_singleton, List.sum_singleton, e, t1, f1]
    omega
/-- what a turn does -/
structure StepOk (c : Nat) (ds : List Dt) (b : BS) : Prop where
  P : ∃ P, NearOk c (movesOf ds b.kept) (fun h => b.rs.getD h 0) P (bNear c ds b) ∧ WayK ds b.kept c (bNear c ds b) (bHouse c ds b) (bN c ds b) P
  el : 0 < (endsOf c b.rs (bNear c ds b)).length
  em : bHouse c ds b ∈ endsOf c b.rs (bNear c ds b)
  hl : bHouse c ds b < c
  hn : b.rs.getD (bHouse c ds b) 0 < 0
  al : bAt c ds b < c
  ap : 0 < b.rs.getD (bAt c ds b) 0
  m1 : bMany c ds b ∈ [-(b.rs.getD (bHouse c ds b) 0), b.rs.getD (bAt c ds b) 0] ++ (bRows c ds b).map (·.r)
  m2 : ∀ y ∈ [-(b.rs.getD (bHouse c ds b) 0), b.rs.getD (bAt c ds b) 0] ++ (bRows c ds b).map (·.r), bMany c ds b ≤ y
  mp : 0 < bMany c ds b
  ro : ∀ r ∈ bRows c ds b, r ∈ movesOf ds b.kept
theorem step_facts {c : Nat} {ds : List Dt} {b : BS} (B : Book c ds) (k : BInv c ds b) (hp : ∃ h, 0 < b.rs.getD h 0) : StepOk c ds b := by
  obtain ⟨P, pot⟩ := k.pot
  have N : NearOk c (movesOf ds b.kept) (fun h => b.rs.getD h 0) P (bNear c ds b) := near_ok (moves_rows B) fun r hr => pot.row (movesOf_ok r hr)
  have el := ends_ne B k N hp
  have em : bHouse c ds b ∈ endsOf c b.rs (bNear c ds b) := pickE_mem el
  obtain ⟨e1, e2⟩ := List.mem_filter.mp em
  rw [Bool.and_eq_true, decide_eq_true_eq] at e2
  obtain ⟨y, hy⟩ := Option.isSome_iff_exists.mp e2.2
  obtain ⟨w, ap⟩ := way_ok N hy
  have ro : ∀ r ∈ bRows c ds b, r ∈ movesOf ds b.kept := fun r hr => by
    obtain ⟨i, _, _, m, _⟩ := w.row r hr
    exact m
  obtain ⟨m1, m2⟩ := least_ok (l := [-(b.rs.getD (bHouse c ds b) 0), b.rs.getD (bAt c ds b) 0] ++ (bRows c ds b).map (·.r)) (by simp)
  refine ⟨⟨P, N, w⟩, el, em, List.mem_range.mp e1, e2.1, w.lt _ (Nat.le_refl _), ap, m1, m2, ?_, ro⟩
  rcases List.mem_append.mp m1 with q | q
  · rcases List.mem_cons.mp q with q | q
    · have : bMany c ds b = -(b.rs.getD (bHouse c ds b) 0) := q
      omega
    · have q : bMany c ds b = b.rs.getD (bAt c ds b) 0 := List.mem_singleton.mp q
      have ap : 0 < b.rs.getD (bAt c ds b) 0 := ap
      omega
  · obtain ⟨r, hr, e⟩ := List.mem_map.mp q
    have := (movesOf_ok r (ro r hr)).pos
    have e : r.r = bMany c ds b := e
    omega
def posSum (c : Nat) (rs : List Int) : Int := ((List.range c).map fun h => max (rs.getD h 0) 0).sum
theorem rsStep_get {rs : List Int} {house at_ : Nat} {many : Int} (h1 : house < rs.length) (h2 : at_ < rs.length) (hne : house ≠ at_) (h : Nat) : (rsStep rs house at_ many).getD h 0 = rs.getD h 0 + many * (at1 house h - at1 at_ h) := by
  unfold rsStep at1
  rw [getD_set_eq, getD_set_eq, getD_set_eq, List.length_set]
  by_cases e1 : at_ = h
  · subst e1
    rw [if_pos ⟨rfl, h2⟩, if_neg (fun z => hne z.1), if_neg hne, if_pos rfl]
    omega
  · rw [if_neg (fun z => e1 z.1), if_neg e1]
    by_cases e2 : house = h
    · subst e2
      rw [if_pos ⟨rfl, h1⟩, if_pos rfl]
      omega
    · rw [if_neg (fun z => e2 z.1), if_neg e2]
      omega
theorem step_ok {c : Nat} {ds : List Dt} {b : BS} (B : Book c ds) (hc : c ≤ 20) (k : BInv c ds b) (hp : ∃ h, 0 < b.rs.getD h 0) : BInv c ds (bStep c ds b) ∧ posSum c (bStep c ds b).rs < posSum c b.rs := by
  have S := step_facts B k hp
  obtain ⟨P, N, w⟩ := S.P
  have hl := S.hl
  have hn := S.hn
  have al := S.al
  have ap := S.ap
  have m2 := S.m2
  have mp := S.mp
  have ro := S.ro
  have nd : ((bRows c ds b).map (·.n)).Nodup := w.nums
  have rowsT := w.row
  have flow := fun g => WayK.flow (c := c) (P := P) g w.go
  unfold bStep
  have hne : bHouse c ds b ≠ bAt c ds b := fun e => by rw [e] at hn; omega
  have mh : bMany c ds b ≤ -(b.rs.getD (bHouse c ds b) 0) := m2 _ (List.mem_append_left _ List.mem_cons_self)
  have ma : bMany c ds b ≤ b.rs.getD (bAt c ds b) 0 := m2 _ (List.mem_append_left _ (List.mem_cons_of_mem _ List.mem_cons_self))
  have mr : ∀ r ∈ bRows c ds b, bMany c ds b ≤ r.r := fun r hr => m2 _ (List.mem_append_right _ (List.mem_map.mpr ⟨r, hr, rfl⟩))
  have hmo : ∀ r ∈ bRows c ds b, MoveOk ds b.kept r := fun r hr => movesOf_ok r (ro r hr)
  have tight : ∀ r ∈ bRows c ds b, ∃ x, gC (bNear c ds b) r.f = some x ∧ gC (bNear c ds b) r.t = some (x + 1000 * r.w + 1) := fun r hr => by
    obtain ⟨i, _, h1, _, h2, _⟩ := rowsT r hr
    obtain ⟨_, e, x, y, h3, h4, h5⟩ := N.ye _ r h1
    exact ⟨x, h3, by rw [e, h4, h5]⟩
  have flow : ∀ g : Nat → Int, ((bRows c ds b).map fun r => g r.t - g r.f).sum = g (bHouse c ds b) - g (bAt c ds b) := flow
  have sdef : NearOk c (movesOf ds b.kept) (fun h => b.rs.getD h 0) P (bNear c ds b) := N
  generalize bNear c ds b = s at tight sdef
  generalize bMany c ds b = m at mp mh ma mr ⊢
  generalize bRows c ds b = R at nd mr hmo ro tight flow ⊢
  generalize bHouse c ds b = hs at hl hn hne mh flow ⊢
  generalize bAt c ds b = at_ at al ap hne ma flow ⊢
  clear S m2 w rowsT N
  have kc := k.cut
  obtain ⟨f1, f2⟩ := addRow_fold (k := m) R b.kept fun r hr => by rw [kc.len]; exact (hmo r hr).n
  have val : ∀ n, (gs R n = 0) ∨ ∃ r ∈ R, r.n = n ∧ gs R n = r.w := by
    intro n
    by_cases z : ∃ r ∈ R, r.n = n
    · obtain ⟨r, hr, e⟩ := z
      exact .inr ⟨r, hr, e, by rw [← e]; exact gs_one nd r hr⟩
    · exact .inl (gs_none fun r hr e => z ⟨r, hr, e⟩)
  have rsg := rsStep_get (rs := b.rs) (many := m) (by rw [k.lr]; exact hl) (by rw [k.lr]; exact al) hne
  refine ⟨⟨⟨by show (R.foldl (addRow m) b.kept).length = _; rw [f1, kc.len], fun n hn => ?_, fun n hn => ?_⟩, ?_, fun h => ?_, ?_⟩, ?_⟩
  · show 0 ≤ (R.foldl (addRow m) b.kept).getD n 0
    rw [f2]
    have h1 := kc.lo n hn
    rcases val n with z | ⟨r, hr, e, z⟩
    · rw [z]
      omega
    · have hl := mr r hr
      rcases (hmo r hr).d with ⟨w, _, _, e2⟩ | ⟨w, _, _, e2⟩
      · rw [z, w]
        omega
      · rw [z, w]
        rw [e] at e2
        omega
  · show (R.foldl (addRow m) b.kept).getD n 0 ≤ _
    rw [f2]
    have h1 := kc.hi n hn
    rcases val n with z | ⟨r, hr, e, z⟩
    · rw [z]
      omega
    · have hl := mr r hr
      rcases (hmo r hr).d with ⟨w, _, _, e2⟩ | ⟨w, _, _, e2⟩
      · rw [z, w]
        rw [e] at e2
        omega
      · rw [z, w]
        omega
  · show (rsStep _ _ _ _).length = c
    unfold rsStep
    rw [List.length_set, List.length_set, k.lr]
  · show (rsStep _ _ _ _).getD h 0 = gain ds (fun n => (R.foldl (addRow m) b.kept).getD n 0 - dM ds n) h
    rw [rsg, gain_congr (g := fun n => (b.kept.getD n 0 - dM ds n) + m * gs R n) fun n _ => by rw [f2]; omega, gain_add, gain_mul, k.eq]
    have e1 : gain ds (gs R) h = (R.map fun r => r.w * (at1 (dB ds r.n) h - at1 (dA ds r.n) h)).sum := gs_sum (g := fun n => at1 (dB ds n) h - at1 (dA ds n) h) fun r hr => (hmo r hr).n
    have e2 : (R.map fun r => r.w * (at1 (dB ds r.n) h - at1 (dA ds r.n) h)).sum = (R.map fun r => at1 r.t h - at1 r.f h).sum := sum_congr fun r hr => by
      rcases (hmo r hr).d with ⟨w, e3, e4, _⟩ | ⟨w, e3, e4, _⟩
      · rw [w, e3, e4]
        omega
      · rw [w, e3, e4]
        omega
    rw [e1, e2, flow fun v => at1 v h]
  · -- new prices
    obtain ⟨Q1, hQ1⟩ := bound_ex (fun f => -(P f)) c
    obtain ⟨Q2, hQ2⟩ := bound_ex (fun t => (gC s t).getD 0 / 1000) c
    have md : ∀ h y, gC s h = some y → y % 1000 < 20 := fun h y e => cost_mod sdef hc e
    have mvR := moves_rows (cut := b.kept) B
    have row : ∀ r ∈ movesOf ds b.kept, (match gC s r.t with | some y => y / 1000 | none => P r.t + (Q1 + Q2 + 1)) ≤ (match gC s r.f with | some y => y / 1000 | none => P r.f + (Q1 + Q2 + 1)) + r.w := by
      intro r hr
      have pr := sdef.pot r hr
      cases e1 : gC s r.f with
      | some x =>
        obtain ⟨y, e2, h3⟩ := sdef.sat r hr x e1
        rw [e2]
        have a1 := md _ _ e1
        have a2 := md _ _ e2
        show y / 1000 ≤ x / 1000 + r.w
        omega
      | none =>
        cases e2 : gC s r.t with
        | some y =>
          have h1 := hQ1 r.f (mvR.f r hr)
          have h2 := hQ2 r.t (mvR.t r hr)
          dsimp only at h1 h2 ⊢
          rw [e2] at h2
          have h2 : y / 1000 ≤ Q2 := h2
          have hw : -1 ≤ r.w := by
            rcases (movesOf_ok r hr).d with ⟨w, _⟩ | ⟨w, _⟩ <;> omega
          show y / 1000 ≤ P r.f + (Q1 + Q2 + 1) + r.w
          omega
        | none =>
          show P r.t + (Q1 + Q2 + 1) ≤ P r.f + (Q1 + Q2 + 1) + r.w
          omega
    have back : ∀ r ∈ R, (match gC s r.f with | some y => y / 1000 | none => P r.f + (Q1 + Q2 + 1)) = (match gC s r.t with | some y => y / 1000 | none => P r.t + (Q1 + Q2 + 1)) - r.w := by
      intro r hr
      obtain ⟨x, e1, e2⟩ := tight r hr
      have a1 := md _ _ e1
      have a2 := md _ _ e2
      rw [e1, e2]
      show x / 1000 = (x + 1000 * r.w + 1) / 1000 - r.w
      omega
    refine ⟨fun h => match gC s h with | some y => y / 1000 | none => P h + (Q1 + Q2 + 1), fun n hn q => ?_, fun n hn q => ?_⟩
    · by_cases z : b.kept.getD n 0 < dM ds n
      · exact row _ (moves_mem1 hn z)
      · have q : (R.foldl (addRow m) b.kept).getD n 0 < dM ds n := q
        rw [f2] at q
        rcases val n with v | ⟨r, hr, e, v⟩
        · rw [v] at q
          omega
        · rcases (hmo r hr).d with ⟨w, _, _, _⟩ | ⟨w, ef, et, _⟩
          · rw [v, w] at q
            omega
          · have bk := back r hr
            rw [ef, et, e, w] at bk
            rw [bk]
            omega
    · by_cases z : 0 < b.kept.getD n 0
      · have := row _ (moves_mem2 hn z)
        dsimp only at this ⊢
        omega
      · have q : 0 < (R.foldl (addRow m) b.kept).getD n 0 := q
        rw [f2] at q
        rcases val n with v | ⟨r, hr, e, v⟩
        · rw [v] at q
          omega
        · rcases (hmo r hr).d with ⟨w, ef, et, _⟩ | ⟨w, _, _, _⟩
          · have bk := back r hr
            rw [ef, et, e, w] at bk
            rw [bk]
            omega
          · rw [v, w] at q
            omega
  · show posSum c (rsStep _ _ _ _) < posSum c b.rs
    refine sum_lt (y := at_) (fun h _ => ?_) (List.mem_range.mpr al) ?_
    · rw [rsg]
      unfold at1
      by_cases e1 : hs = h
      · subst e1
        rw [if_pos rfl, if_neg (fun z => hne z.symm)]
        omega
      · rw [if_neg e1]
        split <;> omega
    · rw [rsg]
      unfold at1
      rw [if_neg hne, if_pos rfl]
      omega
/-! ### till nothing more is to be sent -/
def anyPos (rs : List Int) : Bool := rs.any fun x => decide (0 < x)
theorem anyPos_iff {rs : List Int} : anyPos rs = true ↔ ∃ h, 0 < rs.getD h 0 := by
  unfold anyPos
  rw [List.any_eq_true]
  constructor
  · rintro ⟨x, hx, h⟩
    obtain ⟨i, hi, e⟩ := List.mem_iff_getElem.mp hx
    refine ⟨i, ?_⟩
    rw [List.getD_eq_getElem?_getD, List.getElem?_eq_getElem hi]
    show 0 < rs[i]
    rw [e]
    exact of_decide_eq_true h
  · rintro ⟨i, h⟩
    rcases Nat.lt_or_ge i rs.length with q | q
    · rw [List.getD_eq_getElem?_getD, List.getElem?_eq_getElem q] at h
      exact ⟨rs[i], List.getElem_mem q, decide_eq_true h⟩
    · rw [List.getD_eq_getElem?_getD, List.getElem?_eq_none q] at h
      exact absurd h (by decide)
noncomputable def bIt (c : Nat) (ds : List Dt) : Nat → BS → BS
  | 0, b => b
  | n + 1, b => if anyPos b.rs = true then bIt c ds n (bStep c ds b) else b
theorem posSum_nn {c : Nat} {rs : List Int} : 0 ≤ posSum c rs := sum_nn fun h _ => by omega
theorem bIt_stop {c : Nat} {ds : List Dt} (B : Book c ds) (hc : c ≤ 20) : ∀ (m : Nat) (b : BS), BInv c ds b → (posSum c b.rs).toNat = m → ∃ n, anyPos (bIt c ds n b).rs = false := by
  intro m
  induction m using Nat.strongRecOn with
  | ind m ih =>
    intro b k e
    by_cases q : anyPos b.rs = true
    · obtain ⟨k1, d⟩ := step_ok B hc k (anyPos_iff.mp q)
      have nn := posSum_nn (c := c) (rs := (bStep c ds b).rs)
      obtain ⟨n, hn⟩ := ih _ (by omega) _ k1 rfl
      refine ⟨n + 1, ?_⟩
      unfold bIt
      rw [if_pos q]
      exact hn
    · exact ⟨0, Bool.eq_false_iff.mpr q⟩
theorem bIt_ok {c : Nat} {ds : List Dt} (B : Book c ds) (hc : c ≤ 20) : ∀ (n : Nat) (b : BS), BInv c ds b → BInv c ds (bIt c ds n b)
  | 0, b, k => k
  | n + 1, b, k => by
    unfold bIt
    by_cases q : anyPos b.rs = true
    · rw [if_pos q]
      exact bIt_ok B hc n _ (step_ok B hc k (anyPos_iff.mp q)).1
    · rw [if_neg q]
      exact k
def b0 (c : Nat) (ds : List Dt) : BS := ⟨List.replicate ds.length 0, (bal c ds).map fun x => -x⟩
theorem map_range {α : Type} {ds : List Dt} (F : Dt → α) : ds.map F = (List.range ds.length).map fun n => F (ds.getD n d0) := by
  apply List.ext_getElem (by rw [List.length_map, List.length_map, List.length_range])
  intro n h1 h2
  rw [List.length_map] at h1
  rw [List.getElem_map, List.getElem_map, List.getElem_range, List.getD_eq_getElem?_getD, List.getElem?_eq_getElem h1] <;> rfl
theorem bal_gain {c h : Nat} {ds : List Dt} (hb : ∀ d ∈ ds, d.a < c ∧ d.b < c) : (bal c ds).getD h 0 = gain ds (dM ds) h := by
  unfold bal
  rw [bal_get (c := c) _ _ List.length_replicate hb, getD_replicate, map_range]
  unfold gain
  exact Int.zero_add _
theorem getD_rep0 {n h : Nat} : (List.replicate n (0 : Int)).getD h 0 = 0 := getD_replicate
theorem b0_ok {c : Nat} {ds : List Dt} (B : Book c ds) : BInv c ds (b0 c ds) := by
  have hm : ∀ n, n < ds.length → 0 ≤ dM ds n := fun n hn => by
    have : 0 < dM ds n := (B.ok _ (getD_mem hn)).lo
    omega
  refine ⟨⟨by show (List.replicate _ _).length = _; rw [List.length_replicate], fun n hn => ?_, fun n hn => ?_⟩, ?_, fun h => ?_, ⟨fun _ => 0, fun n hn _ => by omega, fun n hn q => ?_⟩⟩
  · show 0 ≤ (List.replicate _ _).getD n 0
    rw [getD_rep0]
    exact Int.le_refl _
  · show (List.replicate _ _).getD n 0 ≤ _
    rw [getD_rep0]
    exact hm n hn
  · show ((bal c ds).map _).length = c
    rw [List.length_map, bal_len]
  · have e1 : (b0 c ds).rs.getD h 0 = -((bal c ds).getD h 0) := by
      show ((bal c ds).map fun x => -x).getD h 0 = _
      rw [List.getD_eq_getElem?_getD, List.getElem?_map, List.getD_eq_getElem?_getD]
      cases (bal c ds)[h]? <;> rfl
    rw [e1, bal_gain (book_ab B)]
    have e2 : gain ds (fun n => (b0 c ds).kept.getD n 0 - dM ds n) h = gain ds (fun n => -1 * dM ds n) h := gain_congr fun n _ => by
      show (List.replicate _ _).getD n 0 - _ = _
      rw [getD_rep0]
      omega
    rw [e2, gain_mul]
    omega
  · have q : 0 < (List.replicate ds.length (0 : Int)).getD n 0 := q
    rw [getD_rep0] at q
    omega
noncomputable def bTurns (c : Nat) (ds : List Dt) : Nat := Classical.epsilon fun n => anyPos (bIt c ds n (b0 c ds)).rs = false
noncomputable def bEnd (c : Nat) (ds : List Dt) : BS := bIt c ds (bTurns c ds) (b0 c ds)
def cutBy (ds : List Dt) (kept : List Int) : List Int := (List.range ds.length).map fun n => dM ds n - kept.getD n 0
noncomputable def bestCut (c : Nat) (ds : List Dt) : List Int := cutBy ds (bEnd c ds).kept
theorem bEnd_stops {c : Nat} {ds : List Dt} (B : Book c ds) (hc : c ≤ 20) : anyPos (bEnd c ds).rs = false :=
  Classical.epsilon_spec (p := fun n => anyPos (bIt c ds n (b0 c ds)).rs = false) (bIt_stop B hc _ _ (b0_ok B) rfl)
theorem best_ok {c : Nat} {ds : List Dt} (B : Book c ds) (hc : c ≤ 20) : ∃ P, BestOk c ds (bestCut c ds) P := by
  have k := bIt_ok B hc (bTurns c ds) _ (b0_ok B)
  have hs := bEnd_stops B hc
  have k : BInv c ds (bEnd c ds) := k
  unfold bestCut
  generalize bEnd c ds = b at k hs ⊢
  have np : ∀ h, b.rs.getD h 0 ≤ 0 := fun h => by
    rcases Int.lt_or_le 0 (b.rs.getD h 0) with z | z
    · have := anyPos_iff.mpr ⟨h, z⟩
      rw [hs] at this
      cases this
    · exact z
  have s0 : ((List.range c).map fun h => b.rs.getD h 0).sum = 0 := by
    have := gain_sum (X := fun _ => 1) (f := fun n => b.kept.getD n 0 - dM ds n) (book_ab B)
    rw [sum_zero (f := fun n => (b.kept.getD n 0 - dM ds n) * ((1 : Int) - 1)) fun n _ => by omega] at this
    exact (sum_congr fun h _ => by rw [k.eq, Int.one_mul]).trans this
  have z : ∀ h, b.rs.getD h 0 = 0 := by
    intro h
    rcases Int.lt_or_le (b.rs.getD h 0) 0 with q | q
    · exfalso
      have hlt : h < c := by
        rcases Nat.lt_or_ge h c with z | z
        · exact z
        · rw [List.getD_eq_getElem?_getD, List.getElem?_eq_none (by rw [k.lr]; exact z)] at q
          exact absurd q (by decide)
      have := sum_lt (f := fun h => b.rs.getD h 0) (g := fun _ => 0) (l := List.range c) (y := h) (fun h _ => np h) (List.mem_range.mpr hlt) q
      rw [s0, sum_zero fun _ _ => rfl] at this
      exact absurd this (by decide)
    · have := np h
      omega
  have fg : ∀ n, n < ds.length → (cutBy ds b.kept).getD n 0 = dM ds n - b.kept.getD n 0 := fun n hn => getD_map_range hn
  obtain ⟨P, pot⟩ := k.pot
  refine ⟨P, ⟨by unfold cutBy; rw [List.length_map, List.length_range], fun n hn => ?_, fun n hn => ?_⟩, ?_, fun n hn q => ?_, fun n hn q => ?_⟩
  · rw [fg n hn]
    have := k.cut.hi n hn
    omega
  · rw [fg n hn]
    have := k.cut.lo n hn
    omega
  · rw [even_iff (book_ab B)]
    intro h
    rw [gain_congr (g := fun n => -1 * (b.kept.getD n 0 - dM ds n)) fun n hn => by rw [fg n hn]; omega, gain_mul, ← k.eq, z h]
    rfl
  · rw [fg n hn] at q
    have := pot.dn n hn (by omega)
    omega
  · rw [fg n hn] at q
    have := pot.up n hn (by omega)
    omega
end Bk

set_option Elab.async false
set_option linter.all false
set_option maxRecDepth 100000
set_option maxHeartbeats 4000000
/-! Vr: list(reversed(xs)) -/
namespace RevL
open PySem PySem.Spec PyProof.Rows L2
section
variable {prog : Program} {w : World} {A : Around} {E : Value → Shared → Prop} {s : Shared}
theorem ext_rev {R : Result → Shared → Prop} {S I l : Addr} {vs : Array Value} {res : Value} {c0 : Nat} (hh : A.handled = none) (hi : s.heap.IsRevIter I l ((vs.size : Int) - 1)) (hl : s.heap.IsList l vs) (nl : l ≠ I) (nI : S ≠ I) (nS : S ≠ l) (hz : vs.size ≤ sizeLine)
    (hS : s.heap.get? S = some { cls := .type "list", data := .seq #[] c0 })
    (fin : ∀ g tk out c, (∀ b o, b ≠ S → b ≠ I → s.heap.get? b = some o → g.get? b = some o) → g.get? S = some { cls := .type "list", dict := none, data := .seq out c, slots := #[] } → ItemsOf (fun i v => vs[vs.size - 1 - i]? = some v) out vs.size → R (.ok (.ret res)) { s with heap := g, toks := tk }) :
    wpAny (model prog w) A.in1 (Builtin.List.listExtendWith (.ref S) (.ref I) res)
      (fun fin s' => match fin with | .done f => R (.ok f) s' | .again c' => c'.quiet = true ∧ codeAny (model prog w) A c' R s') (fun e s' => R (.error e) s') s := by
  have Wk := (Walks.listRev (prog := prog) (w := w) (A := A.in1) hh I l nl vs).toS
  have nin : S ∉ [I, l] := by simp only [List.mem_cons, List.not_mem_nil, or_false, not_or]; exact ⟨nI, nS⟩
  have ty : s.TypeIs (.ref I) "list_reverseiterator" := hi.typeIs
  have sr : Builtin.List.listSameRef (.ref S) (.ref I) = false := by simp [Builtin.List.listSameRef, nI]
  unfold Builtin.List.listExtendWith
  refine wpAny_bind (wpAny_typeOf ty ?_)
  rw [if_neg (by rw [sr] <;> decide)]
  refine wpAny_bind (wpAny_pyIter_revIter hi (wpAny_bind (wpAny_holding ?_)))
  unfold Builtin.List.listLengthHint
  refine wpAny_bind (wpAny_specialOf ty RT.nolen_lri ?_)
  show wpAny _ A.in1 (specialOf (.ref I) (Str.ofString "__length_hint__") >>= _) _ _ s
  refine wpAny_bind (wpAny_specialOf ty RT.hint_lri ?_)
  generalize hid : ("list_reverseiterator.__length_hint__" : String) = z0
  wp_delta
  have sp : splitId z0 = some ("list_reverseiterator", "__length_hint__") := by subst hid; decide +kernel
  rw [sp]
  subst hid
  refine wpAny_bind (wpAny_isInstance (b := true) ty (by rw [isSubtype_type]; kernel_rfl) (wpAny_pure ?_))
  rw [if_neg (by decide)]
  have z : ((vs.size : Nat) : Int) - 1 - ((0 : Nat) : Int) = (vs.size : Int) - 1 := by omega
  refine wpAny_pure ⟨plainId_quiet F.plain_extend_loop _, ?_⟩
  refine codeAny_extend_loopS Wk hz S nin res vs.size 0 _ #[] c0 rfl (Nat.zero_le _) ⟨Nat.zero_le _, by rw [z]; exact hi, hl⟩ hS (ItemsOf.nil _) fun s2 out c hm hS2 hout => ?_
  rw [Moved.eq_with hm]
  refine fin s2.heap s2.toks out c (fun b o h1 h2 e => hm.heap b o (fun hmem => ?_) e) hS2 hout
  rcases List.mem_cons.mp hmem with e' | hmem
  · exact h1 e'
  · exact h2 (List.mem_singleton.mp hmem)
theorem call_list_rev {I l : Addr} {vs : Array Value} {Q : Value → Shared → Prop} (hh : A.handled = none) (hi : s.heap.IsRevIter I l ((vs.size : Int) - 1)) (hl : s.heap.IsList l vs) (nl : l ≠ I) (hz : vs.size ≤ sizeLine)
    (fin : ∀ g tk out c, (∀ b o, b ≠ I → s.heap.get? b = some o → g.get? b = some o) → g.get? s.heap.objs.size = some { cls := .type "list", dict := none, data := .seq out c, slots := #[] } → ItemsOf (fun i v => vs[vs.size - 1 - i]? = some v) out vs.size →
      Q (.ref s.heap.objs.size) { s with heap := g, toks := tk }) : wpAny (model prog w) A (call (.type "list") [.ref I]) Q E s := by
  obtain ⟨oi, hoi, _⟩ := id hi
  obtain ⟨ol, hol, _⟩ := id hl
  refine callType_codes (Q₁ := fun u s1 => u = .ref s.heap.objs.size ∧ s1 = { s with heap := s.heap.push { cls := .type "list", data := .seq #[] } }) F.called_list (F.typeCall_list_1 _) F.entry_list_init (code_list_new _ ⟨rfl, rfl⟩) fun u s1 h1 => ?_
  obtain ⟨rfl, rfl⟩ := h1
  have g0 : (s.heap.push { cls := .type "list", data := .seq #[] }).get? s.heap.objs.size = some { cls := .type "list", data := .seq #[] } := Heap.get?_push_size _ rfl
  have kp : ∀ b o, s.heap.get? b = some o → ((s.heap.push { cls := .type "list", data := .seq #[] }).update s.heap.objs.size (Obj.mapSeq (fun _ => (#[] : Array Value)))).get? b = some o := fun b o e =>
    (Heap.get?_update_other _ _ (Nat.ne_of_gt (Heap.lt_size e))).trans (Heap.get?_push_of_some _ e)
  refine ⟨⟨_, g0, rfl⟩, F.args_list_init_2 _ _, ?_⟩
  show wpAny _ _ (do let was ← Builtin.List.listItems (.ref s.heap.objs.size); Builtin.List.listUpdate (.ref s.heap.objs.size) (fun _ => #[]); letGo was.toList.reverse; Builtin.List.listExtendWith (.ref s.heap.objs.size) (.ref I) .none) _ _ _
  refine wpAny_bind ?_
  unfold Builtin.List.listItems
  refine wpAny_bind (wpAny_seqItems g0 rfl (wpAny_pure ?_))
  show wpAny _ _ (updateSeq s.heap.objs.size (fun _ => #[]) >>= fun _ => letGo (#[] : Array Value).toList.reverse >>= fun _ => Builtin.List.listExtendWith (.ref s.heap.objs.size) (.ref I) .none) _ _ _
  refine wpAny_bind (wpAny_updateSeq g0 rfl ?_)
  have g1 := Heap.get?_update_self (Obj.mapSeq (fun _ => (#[] : Array Value))) g0 rfl
  refine wpAny_bind (wpAny_letGo ?_)
  refine ext_rev (A := A.in1) (s := { s with heap := (s.heap.push { cls := .type "list", data := .seq #[] }).update s.heap.objs.size (Obj.mapSeq (fun _ => (#[] : Array Value))) }) hh (hi.at fun o e => kp I o e) (hl.at fun o e => kp l o e) nl (Nat.ne_of_gt (Heap.lt_size hoi)) (Nat.ne_of_gt (Heap.lt_size hol)) hz g1 fun g tk out c k e it => ?_
  exact ⟨rfl, fin g tk out c (fun b o hb q => k b o (Nat.ne_of_lt (Heap.lt_size q)) hb (kp b o q)) e it⟩
end
section
variable {X : Cx} {a : Expr} {ta : TE}
def tList_reversed (K : PySem.W.Frag) (ta : TE) : TE := fun σ H Q => ta σ H fun x H1 => ∃ p xs, x = .ref p ∧ SqL K H1 p xs ∧ ∀ q, H1 q = none → Q (.ref q) (upd H1 q (.lst xs.reverse))
theorem vals_rev {xs : List V} {its : List Value} {out : Array Value} (r : Vals xs its) (h : ItemsOf (fun i v => its.toArray[its.toArray.size - 1 - i]? = some v) out its.toArray.size) : Vals xs.reverse out.toList := by
  have e : out.toList = its.reverse := by
    have hl : out.toList.length = its.length := by rw [Array.length_toList, h.1, List.size_toArray]
    apply List.ext_getElem?
    intro j
    by_cases hj : j < its.length
    · obtain ⟨v, hv⟩ : ∃ v, out.toList[j]? = some v := ⟨_, List.getElem?_eq_getElem (by omega)⟩
      have q := h.2 j v (by rw [← Array.getElem?_toList]; exact hv)
      rw [List.size_toArray, ← Array.getElem?_toList] at q
      rw [hv, List.getElem?_reverse hj]
      exact q.symm
    · rw [List.getElem?_eq_none (by omega), List.getElem?_eq_none (by rw [List.length_reverse]; omega)]
  rw [e]
  clear e h
  induction r with
  | nil => exact .nil
  | cons h _ ih =>
    rw [List.reverse_cons, List.reverse_cons]
    exact Paired.snoc ih h
theorem pe_list_reversed {p p2 pos pos2 : Pos} (hg : Gl X "list") (hm : X.mg "list" = none) (hg2 : Gl X "reversed") (hm2 : X.mg "reversed" = none) (ha : PE X a ta) (hc : X.calm = true := by rfl)
    (na : starEach [a] X.env = (false, eval a X.env) :: starEach [] X.env := by rfl) (nb : starEach [.Call (.Name "reversed" p2) [a] [] pos2] X.env = (false, eval (.Call (.Name "reversed" p2) [a] [] pos2) X.env) :: starEach [] X.env := by rfl) :
    PE X (.Call (.Name "list" p) [.Call (.Name "reversed" p2) [a] [] pos2] [] pos) (tList_reversed X.K ta) := by
  refine ⟨fun pins s σ H Q I h => ?_⟩
  refine Call_ (ld_blt I hg hm boot_list (callWith_type1 (args_cons ?_ nb) nb))
  refine Call_ (ld_blt I hg2 hm2 boot_reversed (callWith_type1 (args_cons (thn (ha.run pins s σ H _ I h) fun v s1 ⟨x, H1, I1, r1, q⟩ => args_nil ?_) na) na))
  obtain ⟨l, xs, rfl, hq, q⟩ := q
  cases r1
  obtain ⟨its, rv, pl, hz⟩ := I1.list hq
  have hlen := rv.length
  refine call_reversed_list pl.isList (args_nil ?_)
  have I2 : Inv X pins σ H1 { s1 with heap := s1.heap.push (revObj l ((its.toArray.size : Int) - 1)) } := I1.kept (t' := s1.toks) fun b o e => Heap.get?_push_of_some _ e
  have hi : (s1.heap.push (revObj l ((its.toArray.size : Int) - 1))).IsRevIter s1.heap.objs.size l ((its.toArray.size : Int) - 1) := ⟨_, Heap.get?_push_size _ rfl, rfl, rfl⟩
  have hll : (s1.heap.push (revObj l ((its.toArray.size : Int) - 1))).IsList l its.toArray := pl.isList.push _
  obtain ⟨ol, hol, _⟩ := id pl.isList
  refine call_list_rev (s := { s1 with heap := s1.heap.push (revObj l ((its.toArray.size : Int) - 1)) }) (I2.ok.hd hc) hi hll (Nat.ne_of_lt (Heap.lt_size hol)) (by rw [List.size_toArray]; omega) fun g tk out c k e it => ?_
  have k2 : ∀ b o, s1.heap.get? b = some o → g.get? b = some o := fun b o z => k b o (Nat.ne_of_lt (Heap.lt_size z)) (Heap.get?_push_of_some _ z)
  have vr := vals_rev rv it
  have hs : s1.heap.objs.size ≤ (s1.heap.push (revObj l ((its.toArray.size : Int) - 1))).objs.size := by rw [Heap.size_push]; exact Nat.le_succ _
  refine ⟨.ref _, upd H1 _ (.lst xs.reverse), I1.laid (t' := tk) k2 hs (show ObjOk X.prog X.w _ _ _ (.lst xs.reverse) from ⟨by rw [List.length_reverse]; exact hz, out.toList, c, vr, by rw [Array.toArray_toList]; exact e⟩), rfl, q _ (I1.hok.fresh hs)⟩
end
end RevL
namespace Vx
open PySem L2 RevL
section
variable {K : PySem.W.Frag} {M M1 : List Cell} {s : List Sl} {te : TE} {w : W} {ds : List PyData}
theorem dqa_rev {H : Hp} : ∀ {vs : List V} {ds : List PyData}, DqA H vs ds → DqA H vs.reverse ds.reverse
  | _, _, .nil => .nil
  | _, _, .cons h t => by
    rw [List.reverse_cons, List.reverse_cons]
    exact dqa_app (dqa_rev t) (.cons h .nil)
theorem Ev.listRev (h : Ev K te s M (dl ds) M1) : Ev K (tList_reversed K te) s M (dl ds.reverse) M1 := fun G al σ H k r Q q =>
  h G al σ H k r _ fun v G1 al1 H1 k1 l1 r1 => by
    cases r1 with
    | lst e q1 => exact ⟨_, _, rfl, .of (k1.ex _ _ e), alloc_lst k1 (dqa_rev q1) (q.up k k1 l1)⟩
theorem Ev.listRange {n : Int} (h : Ev K te s M (di n) M1) (hn : 0 ≤ n ∧ n ≤ 100000) : Ev K (tLstRg (tRg1 te)) s M (dl ((List.range n.toNat).map fun i : Nat => .int (i : Int))) M1 := fun G al σ H k r Q q =>
  h G al σ H k r _ fun v G1 al1 H1 k1 l1 r1 => by
    cases r1
    refine ⟨n, rfl, RgOk.of_le (by omega) (by omega) (by omega) hn.1, alloc_lst k1 ?_ (q.up k k1 l1)⟩
    unfold rgV
    rw [Int.sub_zero]
    generalize List.range n.toNat = l
    induction l with
    | nil => exact .nil
    | cons x l ih =>
      rw [List.map_cons, List.map_cons, Int.zero_add]
      exact .cons (.int _) ih
end
end Vx

set_option Elab.async false
set_option linter.all false
set_option maxRecDepth 100000
set_option maxHeartbeats 4000000
/-! Vq: x in a list of numbers, list.index, dicts kept as they are filled -/
namespace Vx
open PySem L2
section
variable {K : PySem.W.Frag} {E : XK} {M M1 M2 : List Cell} {s : List Sl} {ta tb te to : TE} {i : Int} {ns : List Int} {w : W}
theorem flat_ints : ∀ ns : List Int, (ns.map V.int).all flatV = true
  | [] => rfl
  | n :: r => by rw [List.map_cons, List.all_cons, flat_ints r] <;> rfl
theorem inV_ints {i : Int} : ∀ ns : List Int, inV (.int i) (ns.map V.int) = decide (i ∈ ns)
  | [] => rfl
  | n :: r => by
    have h := inV_ints (i := i) r
    unfold inV at h ⊢
    rw [List.map_cons, List.any_cons, h]
    show (n == i || _) = _
    by_cases e : n = i
    · subst e
      simp
    · have e' : ¬ i = n := fun z => e z.symm
      simp [e, e']
theorem Ev.inI (ha : Ev K ta s M (di i) M1) (hb : Ev K tb s M1 (dl (ns.map .int)) M2) : Ev K (tOp (rIn K false) ta tb) s M (db (decide (i ∈ ns))) M2 :=
  .op ha hb fun G al H x y k hx hy Q q => by
    cases hx
    cases hy with
    | lst e q1 =>
      rw [dqa_ints q1] at e
      exact ⟨_, ns.map .int, rfl, .inl (.of (k.ex _ _ e)), rfl, flat_ints ns, by rw [inV_ints]; exact q _ _ _ _ k .refl (Dq.bl _)⟩
theorem Ev.notInI (ha : Ev K ta s M (di i) M1) (hb : Ev K tb s M1 (dl (ns.map .int)) M2) : Ev K (tOp (rIn K true) ta tb) s M (db (!decide (i ∈ ns))) M2 :=
  .op ha hb fun G al H x y k hx hy Q q => by
    cases hx
    cases hy with
    | lst e q1 =>
      rw [dqa_ints q1] at e
      exact ⟨_, ns.map .int, rfl, .inl (.of (k.ex _ _ e)), rfl, flat_ints ns, by rw [inV_ints]; exact q _ _ _ _ k .refl (Dq.bl _)⟩
theorem Ev.indexI {j : Nat} (ho : Ev K to s M (dl (ns.map .int)) M1) (ha : Ev K ta s M1 (di i) M2) (hn : ns.Nodup) (hj : ns[j]? = some i) : Ev K (tBM K "list" (rIndex K) to (tCons ta tNil)) s M (di (j : Int)) M2 := fun G al σ H k r Q q =>
  ho G al σ H k r _ fun v1 G1 al1 H1 k1 l1 r1 => by
    cases r1 with
    | lst e q1 =>
      rw [dqa_ints q1] at e
      refine ⟨.inl ⟨rfl, _, .of (k1.ex _ _ e)⟩, ea_cons ha ea_nil G1 al1 σ H1 k1 (r.up l1) _ fun vs G2 al2 H2 k2 l2 r2 => ?_⟩
      obtain ⟨y, rfl, r3⟩ := paired1 r2
      have r4 : Dq G2 y (.int i) := r3
      cases r4
      refine ⟨_, ns.map .int, .int i, j, .int i, rfl, rfl, .of (k2.ex _ _ (l2.g _ _ e)), rfl, flat_ints ns, by rw [List.getElem?_map, hj] <;> rfl, by simp [eqV], fun m z' hm hz => ?_, q _ _ _ _ k2 (l1.trans k1 k.kn l2) (Dq.int _)⟩
      rw [List.getElem?_map] at hz
      cases h : ns[m]? with
      | none => rw [h] at hz; cases hz
      | some x =>
        rw [h] at hz
        cases hz
        show (x == i) = false
        rw [beq_eq_false_iff_ne]
        intro e2
        subst e2
        have := nd_inj hn h hj
        omega
end

/-! dicts -/
/-- a list of keys, each with its place -/
def seenL (l : List Nat) (k : Nat := 0) : List (Key × W) := (l.zipIdx k).map fun p => (Sum.inl (p.1 : Int), natW p.2)
theorem seenL_cons (x : Nat) (l : List Nat) (k : Nat) : seenL (x :: l) k = (Sum.inl (x : Int), natW k) :: seenL l (k + 1) := by
  unfold seenL
  rw [List.zipIdx_cons, List.map_cons]
theorem valW_cons {p : Key × W} {l : List (Key × W)} {k : Key} : valW (p :: l) k = if p.1 = k then some p.2 else valW l k := by
  unfold valW
  rw [List.find?_cons]
  by_cases e : p.1 = k
  · rw [if_pos e, decide_eq_true e] <;> rfl
  · rw [if_neg e, decide_eq_false e]
theorem inl_nat {x y : Nat} : (Sum.inl (x : Int) : Key) = Sum.inl (y : Int) ↔ x = y := by
  constructor
  · intro h
    have := Sum.inl.inj h
    omega
  · rintro rfl
    rfl
theorem seen_none {h : Nat} : ∀ {l : List Nat} {k : Nat}, h ∉ l → valW (seenL l k) (.inl (h : Int)) = none
  | [], _, _ => rfl
  | x :: l, k, hn => by
    rw [seenL_cons, valW_cons, if_neg (fun z => hn (by rw [inl_nat.mp z]; exact List.mem_cons_self))]
    exact seen_none fun z => hn (List.mem_cons_of_mem _ z)
theorem seen_some {h : Nat} : ∀ {l : List Nat} {i k : Nat}, l.Nodup → l[i]? = some h → valW (seenL l k) (.inl (h : Int)) = some (natW (k + i))
  | [], i, k, _, e => by simp at e
  | x :: l, 0, k, _, e => by
    simp at e
    subst e
    rw [seenL_cons, valW_cons, if_pos rfl] <;> rfl
  | x :: l, i + 1, k, nd, e => by
    have e : l[i]? = some h := by simpa using e
    obtain ⟨h1, h2⟩ := List.nodup_cons.mp nd
    rw [seenL_cons, valW_cons, if_neg (fun z => h1 (by rw [inl_nat.mp z]; exact List.mem_of_getElem? e)), seen_some h2 e]
    congr 2
    omega
theorem valW_any {l : List (Key × W)} {k : Key} : (l.any fun kv => decide (kv.1 = k)) = (valW l k).isSome := by
  induction l with
  | nil => rfl
  | cons p l ih =>
    rw [List.any_cons, valW_cons, ih]
    by_cases e : p.1 = k
    · rw [if_pos e, decide_eq_true e] <;> rfl
    · rw [if_neg e, decide_eq_false e, Bool.false_or]
theorem putW_new {l : List (Key × W)} {k : Key} {w : W} (h : valW l k = none) : putW l k w = l ++ [(k, w)] := by
  unfold putW
  rw [valW_any, h]
  rfl
theorem seen_put {h : Nat} {l : List Nat} (hn : h ∉ l) : putW (seenL l) (.inl (h : Int)) (natW l.length) = seenL (l ++ [h]) := by
  rw [putW_new (seen_none hn)]
  unfold seenL
  rw [List.zipIdx_append, List.map_append] <;> simp
theorem seen_len (l : List Nat) (k : Nat) : (seenL l k).length = l.length := by unfold seenL; rw [List.length_map, List.length_zipIdx]
/-- keys that are there, each True -/
def thereL (l : List Nat) : List (Key × W) := l.map fun (h : Nat) => (Sum.inl (h : Int), db true)
theorem there_is {h : Nat} : ∀ {l : List Nat}, (valW (thereL l) (.inl (h : Int))).isSome = decide (h ∈ l)
  | [] => rfl
  | x :: l => by
    unfold thereL
    rw [List.map_cons, valW_cons]
    by_cases e : x = h
    · subst e
      rw [if_pos rfl]
      simp
    · rw [if_neg (fun z => e (inl_nat.mp z))]
      have := there_is (h := h) (l := l)
      unfold thereL at this
      rw [this]
      have e' : ¬ h = x := fun z => e z.symm
      simp [e']
theorem there_val {h : Nat} {l : List Nat} (hm : h ∈ l) : valW (thereL l) (.inl (h : Int)) = some (db true) := by
  induction l with
  | nil => cases hm
  | cons x l ih =>
    unfold thereL at ih ⊢
    rw [List.map_cons, valW_cons]
    by_cases e : x = h
    · rw [if_pos (by rw [e])]
    · rw [if_neg (fun z => e (inl_nat.mp z))]
      rcases List.mem_cons.mp hm with z | z
      · exact absurd z.symm e
      · exact ih z
theorem there_put {h : Nat} {l : List Nat} (hn : h ∉ l) : putW (thereL l) (.inl (h : Int)) (db true) = thereL (l ++ [h]) := by
  have e : valW (thereL l) (.inl (h : Int)) = none := by
    have q := there_is (h := h) (l := l)
    rw [decide_eq_false hn] at q
    cases z : valW (thereL l) (.inl (h : Int)) with
    | none => rfl
    | some w => rw [z] at q; cases q
  rw [putW_new e]
  unfold thereL
  rw [List.map_append] <;> rfl
theorem there_drop {h : Nat} {l : List Nat} : dropW (thereL l) (.inl (h : Int)) = thereL (l.filter fun x => decide (x ≠ h)) := by
  unfold dropW thereL
  rw [List.filter_map]
  congr 1
  apply List.filter_congr
  intro x _
  show decide (¬ (Sum.inl (x : Int) : Key) = _) = _
  by_cases e : x = h
  · subst e
    simp
  · rw [decide_eq_true e]
    exact decide_eq_true (fun z => e (inl_nat.mp z))
theorem there_len (l : List Nat) : (thereL l).length = l.length := by unfold thereL; rw [List.length_map]
end Vx

set_option Elab.async false
set_option linter.all false
set_option maxRecDepth 100000
set_option maxHeartbeats 4000000
/-! Vx8: a thing of numbers, truths, texts, None, lists and tuples is equal to itself -/
namespace Vx
open PySem L2
/-- data of numbers, truths, texts and None alone, n deep at most -/
def pB : Nat → PyData → Bool
  | _, .int _ => true
  | _, .none => true
  | _, .bool _ => true
  | _, .str x => PyData.canLay0 (.str x)
  | n + 1, .list xs => xs.all (pB n)
  | n + 1, .tuple xs => xs.all (pB n)
  | _, _ => false
theorem pB_lay : ∀ (n : Nat) (d : PyData), pB n d = true → d.canLay0 = true ∧ d.depth ≤ n + 1 := by
  intro n
  induction n with
  | zero =>
    intro d h
    cases d <;> first | (simp [pB] at h; done) | (exact ⟨rfl, by simp [PyData.depth]⟩) | (exact ⟨h, by simp [PyData.depth]⟩)
  | succ n ih =>
    have hl : ∀ xs : List PyData, xs.all (pB n) = true → PyData.canLayAll0 xs = true ∧ PyData.depthAll xs ≤ n + 1 := by
      intro xs
      induction xs with
      | nil => exact fun _ => ⟨rfl, by simp [PyData.depthAll]⟩
      | cons x xs ih2 =>
        intro h
        rw [List.all_cons, Bool.and_eq_true] at h
        obtain ⟨a1, a2⟩ := ih x h.1
        obtain ⟨b1, b2⟩ := ih2 h.2
        refine ⟨by rw [PyData.canLayAll0, a1, b1] <;> rfl, ?_⟩
        rw [PyData.depthAll]
        omega
    intro d h
    cases d with
    | list xs =>
      obtain ⟨b1, b2⟩ := hl xs h
      exact ⟨by rw [PyData.canLay0]; exact b1, by rw [PyData.depth]; omega⟩
    | tuple xs =>
      obtain ⟨b1, b2⟩ := hl xs h
      exact ⟨by rw [PyData.canLay0]; exact b1, by rw [PyData.depth]; omega⟩
    | _ => first | (simp [pB] at h; done) | (exact ⟨rfl, by simp [PyData.depth]⟩) | (exact ⟨h, by simp [PyData.depth]⟩)
theorem pB_shaped {n : Nat} {d : PyData} (h : pB n d = true) (hn : n ≤ 60) : SeqAt.shaped d = true := by
  obtain ⟨h1, h2⟩ := pB_lay n d h
  unfold SeqAt.shaped
  rw [h1, Bool.true_and]
  exact decide_eq_true (by omega)
theorem pB_refl : ∀ (n : Nat) (d : PyData), pB n d = true → PyData.eqv d d = true := by
  intro n
  induction n with
  | zero =>
    intro d h
    cases d <;> first | (simp [PyData.eqv]; done) | (simp [pB] at h; done)
  | succ n ih =>
    have hl : ∀ xs : List PyData, xs.all (pB n) = true → PyData.eqvAll xs xs = true := by
      intro xs
      induction xs with
      | nil => exact fun _ => by simp [PyData.eqvAll]
      | cons x xs ih2 =>
        intro h
        rw [List.all_cons, Bool.and_eq_true] at h
        rw [PyData.eqvAll, ih x h.1, ih2 h.2] <;> rfl
    intro d h
    cases d <;> first | (simp [PyData.eqv]; done) | (rw [PyData.eqv]; exact hl _ h) | (simp [pB] at h; done)
theorem pB_of_pI : ∀ (n : Nat) (d : PyData), pI n d = true → pB n d = true := by
  intro n
  induction n with
  | zero =>
    intro d h
    cases d <;> simp [pI] at h <;> simp [pB]
  | succ n ih =>
    intro d h
    cases d with
    | list xs =>
      have h : xs.all (pI n) = true := h
      show xs.all (pB n) = true
      rw [List.all_eq_true] at h ⊢
      exact fun x hx => ih x (h x hx)
    | tuple xs =>
      have h : xs.all (pI n) = true := h
      show xs.all (pB n) = true
      rw [List.all_eq_true] at h ⊢
      exact fun x hx => ih x (h x hx)
    | _ => first | (simp [pI] at h; done) | rfl
section
variable {K : PySem.W.Frag} {M M1 M2 : List Cell} {s : List Sl} {ta tb : TE} {w1 w2 : W} {d : PyData}
theorem Ev.eqSelf (n : Nat) (ha : Ev K ta s M w1 M1) (hb : Ev K tb s M1 w2 M2) (h1 : DatOf M2 w1 d) (h2 : DatOf M2 w2 d) (hn : n ≤ 60) (p : pB n d = true) : Ev K (tOp (rEqD K) ta tb) s M (db true) M2 := by
  refine Ev.is (Ev.eqD ha hb h1 h2 (pB_shaped p hn) (pB_shaped p hn)) ?_
  rw [pB_refl n d p]
theorem Ev.neSelf (n : Nat) (ha : Ev K ta s M w1 M1) (hb : Ev K tb s M1 w2 M2) (h1 : DatOf M2 w1 d) (h2 : DatOf M2 w2 d) (hn : n ≤ 60) (p : pB n d = true) : Ev K (tOp (rNeD K) ta tb) s M (db false) M2 := by
  refine Ev.is (Ev.neD ha hb h1 h2 (pB_shaped p hn) (pB_shaped p hn)) ?_
  rw [pB_refl n d p] <;> rfl
end
end Vx

set_option Elab.async false
set_option linter.all false
set_option maxRecDepth 100000
set_option maxHeartbeats 4000000
/-! Vx9: a for over a list that may be changed, and that no turn changes -/
namespace Vx
open PySem L2
section
variable (K : PySem.W.Frag) (E : XK)
/-- as ForL; ahead of each turn and at the end P holds of the cells -/
def ForP (P : List Cell → Prop) (g : TG) (tb : TS) : List W → List Sl → List Cell → Out → Prop
  | [], s, M, o => P M ∧ ∃ s', Sub s s' ∧ o = .nx s' M
  | w :: ws, s, M, o => P M ∧ ∃ o1, BigG K E g tb w s M o1 ∧ Cont o1 (fun s1 M1 => ForP P g tb ws s1 M1 o) o
end
section
variable {K : PySem.W.Frag} {E : XK} {G H G1 H1 : Hp} {al al1 : List Addr} {M M1 : List Cell} {s : List Sl} {σ : St} {te tl : TE} {bd : TS} {g : TG} {w : W} {ws : List W} {o : Out} {D : Ends} {P : List Cell → Prop} {j : Nat}
theorem ForP.head : ∀ {ws : List W} {s : List Sl} {M : List Cell} {o : Out}, ForP K E P g bd ws s M o → P M
  | [], _, _, _, h => h.1
  | _ :: _, _, _, _, h => h.1
theorem Big.forC (he : Ev K tl s M (.cel j) M1) (hf : ForP K E (fun M => M[j]? = some (.lst ws)) g bd ws s M1 o) : Big K E (tFor (iList K tl) g bd) s M o := fun G al σ H D k r p =>
  he G al σ H k r _ fun v G1 al1 H1 k1 l1 r1 => by
    obtain ⟨a, ea, rfl⟩ := r1
    have look : ∀ {G' al' M' H'}, Ok K G' al' M' H' → Le G1 al1 H1 G' al' H' → M'[j]? = some (.lst ws) → ∃ xs, H' a = some (.lst xs) ∧ Paired (WR K G' al') ws xs := fun {G' al' M' H'} k' l' hm => by
      obtain ⟨β, e, _⟩ := l'.la
      have ea' : al'[j]? = some a := by
        rw [e, List.getElem?_append_left (List.getElem?_eq_some_iff.mp ea).1]
        exact ea
      exact k'.ce j a _ ea' hm
    obtain ⟨xs1, hx1, _⟩ := look k1 .refl hf.head
    refine ⟨a, rfl, ⟨xs1, .of hx1⟩, fun i m σ' H' => m = ws.length - i ∧ i ≤ ws.length ∧ ∃ s' M' G' al', Ok K G' al' M' H' ∧ Le G1 al1 H1 G' al' H' ∧ SR K G' al' s' σ' ∧ ForP K E (fun M => M[j]? = some (.lst ws)) g bd (ws.drop i) s' M' o, ⟨ws.length, by simp, Nat.zero_le _, s, M1, G1, al1, k1, .refl, r.up l1, hf⟩, ?_⟩
    rintro i m σ' H' ⟨rfl, hi, s', M', G', al', k', l', r', f'⟩
    obtain ⟨xs, hx, hq⟩ := look k' l' f'.head
    have hlen := paired_len hq
    by_cases hlt : i < ws.length
    · obtain ⟨w, hw⟩ : ∃ w, ws[i]? = some w := ⟨_, List.getElem?_eq_getElem hlt⟩
      have ed : ws.drop i = w :: ws.drop (i + 1) := by
        rw [List.drop_eq_getElem_cons hlt]
        congr 1
        rw [List.getElem?_eq_getElem hlt] at hw
        exact Option.some.inj hw
      rw [ed] at f'
      obtain ⟨_, o1, hb, hc⟩ := f'
      refine .inr ⟨⟨xs, xs[i]'(by omega), .of hx, List.getElem?_eq_getElem _⟩, fun σ2 H2 => (ws.length - (i + 1) = ws.length - (i + 1) ∧ i + 1 ≤ ws.length ∧ ∃ s' M' G' al', Ok K G' al' M' H2 ∧ Le G1 al1 H1 G' al' H2 ∧ SR K G' al' s' σ2 ∧ ForP K E (fun M => M[j]? = some (.lst ws)) g bd (ws.drop (i + 1)) s' M' o), fun σ2 H2 h => ⟨ws.length - (i + 1), by omega, h⟩, fun x H2 y => ?_⟩
      obtain ⟨e2, y⟩ := y
      subst e2
      have hx2 := y xs (.of hx)
      obtain ⟨x', e3, w2⟩ := paired_get hq hw
      rw [e3] at hx2
      cases hx2
      refine hb G' al' σ' H2 _ x k' r' w2 ?_
      cases o1 with
      | nx s2 M2 => exact fun σ3 G3 al3 H3 k3 l3 r3 => ⟨rfl, hlt, s2, M2, G3, al3, k3, l'.trans k' k1.kn l3, r3, hc⟩
      | ct s2 M2 => exact fun σ3 G3 al3 H3 k3 l3 r3 => ⟨rfl, hlt, s2, M2, G3, al3, k3, l'.trans k' k1.kn l3, r3, hc⟩
      | bk s2 M2 =>
        have e : o = .nx s2 M2 := hc
        subst e
        exact Nxt.up p k k' (l1.trans k1 k.kn l')
      | rt w' M2 =>
        have e : o = .rt w' M2 := hc
        subst e
        exact Then.up p k k' (l1.trans k1 k.kn l')
      | rz c M2 =>
        have e : o = .rz c M2 := hc
        subst e
        exact fun G3 al3 H3 k3 l3 => p G3 al3 H3 k3 ((l1.trans k1 k.kn l').trans k' k.kn l3)
    · have e : i = ws.length := by omega
      subst e
      rw [List.drop_length] at f'
      obtain ⟨_, s2, hs2, e2⟩ := f'
      subst e2
      exact .inl ⟨⟨xs, .of hx, by omega⟩, p σ' G' al' H' k' (l1.trans k1 k.kn l') (r'.weak hs2)⟩
/-- a for of which no turn changes the cells -/
theorem forP_idle {α : Type} {enc : α → W} {s1 : List Sl} {I : List Sl → Prop} (hP : P M) (h0 : ∀ s, I s → Sub s s1) : ∀ (l : List α), (∀ a ∈ l, ∀ s, I s → ∃ s2, I s2 ∧ BigG K E g bd (enc a) s M (.nx s2 M)) → ∀ s, I s → ForP K E P g bd (l.map enc) s M (.nx s1 M)
  | [], _, s, i => ⟨hP, _, h0 s i, rfl⟩
  | a :: l, h, s, i => by
    obtain ⟨s2, i2, hb⟩ := h a List.mem_cons_self s i
    exact ⟨hP, _, hb, forP_idle hP h0 l (fun b hb => h b (List.mem_cons_of_mem _ hb)) s2 i2⟩
end
end Vx

set_option Elab.async false
set_option linter.all false
set_option maxRecDepth 100000
set_option maxHeartbeats 4000000
/-! Vy: instances of an own class: attributes, methods, making them; expressions that raise -/
namespace Vx
open PySem L2
/-- an attribute's value put -/
def putS (f : Str) (w : W) : List (Str × W) → List (Str × W)
  | [] => [(f, w)]
  | (g, x) :: r => if g = f then (g, w) :: r else (g, x) :: putS f w r
section
variable {K : PySem.W.Frag} {E : XK} {G G1 H H1 : Hp} {al al1 : List Addr} {M M1 M2 M3 : List Cell} {s : List Sl} {te to tv : TE} {ta : TA} {w w1 : W} {ws : List W} {o : Out} {C : Addr} {fs : List (Str × W)} {f m : Str} {j : Nat} {T : List Cell → List W → Res → Prop} {c : Value} {u : TS}
abbrev FR (K : PySem.W.Frag) (G : Hp) (al : List Addr) : List (Str × W) → List (Str × V) → Prop := Paired fun (p : Str × W) (q : Str × V) => p.1 = q.1 ∧ WR K G al p.2 q.2
theorem fr_lookup : ∀ {fs : List (Str × W)} {xs : List (Str × V)}, FR K G al fs xs → (∀ w, fs.lookup f = some w → ∃ v, xs.lookup f = some v ∧ WR K G al w v) ∧ (fs.lookup f = none → xs.lookup f = none)
  | _, _, .nil => ⟨fun w h => (by cases h), fun _ => rfl⟩
  | (g, x) :: r, (g', y) :: r', .cons h t => by
    obtain ⟨e, h2⟩ := h
    have e : g = g' := e
    subst e
    obtain ⟨i1, i2⟩ := fr_lookup t
    refine ⟨fun w hw => ?_, fun hn => ?_⟩
    · rw [List.lookup_cons] at hw ⊢
      cases q : (f == g) with
      | true =>
        rw [q] at hw
        cases hw
        exact ⟨y, rfl, h2⟩
      | false =>
        rw [q] at hw
        exact i1 w hw
    · rw [List.lookup_cons] at hn ⊢
      cases q : (f == g) with
      | true =>
        rw [q] at hn
        cases hn
      | false =>
        rw [q] at hn
        exact i2 hn
theorem fr_put {v : V} (h : WR K G al w v) : ∀ {fs : List (Str × W)} {xs : List (Str × V)}, FR K G al fs xs → FR K G al (putS f w fs) (putF f v xs)
  | _, _, .nil => .cons ⟨rfl, h⟩ .nil
  | (g, x) :: r, (g', y) :: r', .cons q t => by
    obtain ⟨e, h2⟩ := q
    have e : g = g' := e
    subst e
    unfold putS putF
    by_cases z : g = f
    · rw [if_pos z, if_pos z]
      exact .cons ⟨rfl, h⟩ t
    · rw [if_neg z, if_neg z]
      exact .cons ⟨rfl, h2⟩ (fr_put h t)
/-- o.f -/
theorem Ev.fld (kc : Cls K C) (kn : NoAttr K C f) (h : Ev K te s M (.cel j) M1) (hm : M1[j]? = some (.ins C fs)) (hl : fs.lookup f = some w) : Ev K (tFld K te f) s M w M1 := fun G al σ H k r Q q =>
  h G al σ H k r _ fun v G1 al1 H1 k1 l1 r1 => by
    obtain ⟨a, ea, rfl⟩ := r1
    obtain ⟨dx, fxs, h1, h2⟩ := k1.ce j a _ ea hm
    obtain ⟨v, e1, e2⟩ := (fr_lookup h2).1 w hl
    exact ⟨a, C, dx, fxs, v, rfl, h1, kc, kn, e1, q v G1 al1 H1 k1 l1 e2⟩
/-- o.f = e -/
theorem Big.setFld (kc : Cls K C) (kn : NoAttr K C f) (he : Ev K tv s M w M1) (ho : Ev K to s M1 (.cel j) M2) (hm : M2[j]? = some (.ins C fs)) (hl : fs.length < 1000) : Big K E (sFld K to tv f) s M (.nx s (M2.set j (.ins C (putS f w fs)))) := fun G al σ H D k r p =>
  he G al σ H k r _ fun v1 G1 al1 H1 k1 l1 r1 => ho G1 al1 σ H1 k1 (r.up l1) _ fun v2 G2 al2 H2 k2 l2 r2 => by
    obtain ⟨a, ea, rfl⟩ := r2
    obtain ⟨dx, fxs, h1, h2⟩ := k2.ce j a _ ea hm
    have l := l1.trans k1 k.kn l2
    have k3 : Ok K G2 al2 (M2.set j (.ins C (putS f w fs))) (upd H2 a (.ins C dx (putF f v1 fxs))) := k2.set ea hm (fun z => nomatch z) ⟨dx, _, upd_same, fr_put (r1.up l2) h2⟩
    exact ⟨a, C, dx, fxs, rfl, h1, kc, kn, by rw [← paired_len h2]; exact hl, p σ G2 al2 _ k3 (l.trans k2 k.kn (.set k2 (List.mem_of_getElem? ea))) (r.up (l.trans k2 k.kn (Le.set (o := .ins C dx (putF f v1 fxs)) k2 (List.mem_of_getElem? ea))))⟩
/-- o.m(..) -/
theorem Ev.meth {E' : XK} (ho : Ev K te s M (.cel j) M1) (hm : M1[j]? = some (.ins C fs)) (hl : fs.lookup m = none) (ha : EvA K ta s M1 ws M2) (hT : T M2 (.cel j :: ws) (.ret w M3)) : Ev K (tMeth C m (spOf K T) [] E' te ta) s M w M3 := fun G al σ H k r Q q =>
  ho G al σ H k r _ fun v G1 al1 H1 k1 l1 r1 => by
    obtain ⟨a, ea, rfl⟩ := r1
    obtain ⟨dx, fxs, h1, h2⟩ := k1.ce j a _ ea hm
    refine ⟨a, dx, fxs, rfl, h1, (fr_lookup h2).2 hl, ha G1 al1 σ H1 k1 (r.up l1) _ fun vs G2 al2 H2 k2 l2 r2 => ?_⟩
    rw [List.append_nil]
    exact ⟨M2, _, _, hT, G2, al2, k2, .cons (WR.up (w := .cel j) ⟨a, ea, rfl⟩ l2) r2, q.up k k2 (l1.trans k1 k.kn l2)⟩
/-- a new instance, then its __init__ -/
theorem Ok.made (k : Ok K G al M H) {x dx : Addr} (hx : H x = none) (hd : H dx = none) (ne : dx ≠ x) : Ok K G (al ++ [x]) (M ++ [.ins C []]) (upd (upd H dx (.own x)) x (.ins C dx [])) ∧ Le G al H G (al ++ [x]) (upd (upd H dx (.own x)) x (.ins C dx [])) := by
  have k1 : Ok K G al M (upd H dx (.own x)) := k.out (k.nin hd) (k.gnone hd)
  have hx1 : upd H dx (.own x) x = none := by rw [upd_ne ne.symm]; exact hx
  have k2 := k1.cell (p := x) (H' := upd (upd H dx (.own x)) x (.ins C dx [])) (c := .ins C []) hx1 (same_new hx1) ⟨dx, [], upd_same, .nil⟩ (by rw [upd_same]; simp)
  have l0 : Le G al H G al (upd H dx (.own x)) := Le.out .refl hd
  exact ⟨k2, l0.trans k1 k.kn (.cell k1 hx1 (same_new hx1))⟩
theorem Ev.make {E' : XK} (ha : EvA K ta s M ws M1) (hT : T (M1 ++ [.ins C []]) (.cel M1.length :: ws) (.ret dn M2)) : Ev K (tMake C (spOf K T) [] E' ta) s M (.cel M1.length) M2 := fun G al σ H k r Q q =>
  ha G al σ H k r _ fun vs G1 al1 H1 k1 l1 r1 x dx hx hd ne => by
    obtain ⟨k2, l2⟩ := k1.made (C := C) hx hd ne
    have rx : WR K G1 (al1 ++ [x]) (.cel M1.length) (.ref x) := ⟨x, by rw [← k1.len, List.getElem?_append_right (Nat.le_refl _), Nat.sub_self] <;> rfl, rfl⟩
    rw [List.append_nil]
    refine ⟨_, _, _, hT, G1, al1 ++ [x], k2, .cons rx (paired_imp (fun _ _ z => z.up l2) r1), fun v G' al' H' k' l' r' => ?_⟩
    cases r'
    exact ⟨rfl, q _ G' al' H' k' ((l1.trans k1 k.kn l2).trans k2 k.kn l') (rx.up l')⟩
/-! ### expressions that raise -/
/-- te raises an object of the class c; the cells are M' then -/
def EvZ (K : PySem.W.Frag) (E : XK) (te : TE) (s : List Sl) (M : List Cell) (c : Value) (M' : List Cell) : Prop :=
  ∀ G al σ H Q, Ok K G al M H → SR K G al s σ → (∀ G' al' H', Ok K G' al' M' H' → Le G al H G' al' H' → E c none H') → te σ H Q
theorem EvZ.meth (ho : Ev K te s M (.cel j) M1) (hm : M1[j]? = some (.ins C fs)) (hl : fs.lookup m = none) (ha : EvA K ta s M1 ws M2) (hT : T M2 (.cel j :: ws) (.rz c M3)) : EvZ K E (tMeth C m (spOf K T) [] E te ta) s M c M3 := fun G al σ H Q k r q =>
  ho G al σ H k r _ fun v G1 al1 H1 k1 l1 r1 => by
    obtain ⟨a, ea, rfl⟩ := r1
    obtain ⟨dx, fxs, h1, h2⟩ := k1.ce j a _ ea hm
    refine ⟨a, dx, fxs, rfl, h1, (fr_lookup h2).2 hl, ha G1 al1 σ H1 k1 (r.up l1) _ fun vs G2 al2 H2 k2 l2 r2 => ?_⟩
    rw [List.append_nil]
    exact ⟨M2, _, _, hT, G2, al2, k2, .cons (WR.up (w := .cel j) ⟨a, ea, rfl⟩ l2) r2, fun G' al' H' k' l' => q G' al' H' k' ((l1.trans k1 k.kn l2).trans k2 k.kn l')⟩
theorem Big.asgZ {g : TG} (h : EvZ K E te s M c M1) : Big K E (tAsg te g) s M (.rz c M1) := fun G al σ H D k r p => h G al σ H _ k r p
theorem Big.dropZ (h : EvZ K E te s M c M1) : Big K E (tDrop te) s M (.rz c M1) := fun G al σ H D k r p => h G al σ H _ k r p
theorem Big.retZ (h : EvZ K E te s M c M1) : Big K E (tRet te) s M (.rz c M1) := fun G al σ H D k r p => h G al σ H _ k r p
end
/-! ### within a try -/
/-- o.m(..), what leaves it told by the slots -/
def tMethS (C : Addr) (m : Str) (sp : Sp) (E : St → XK) (te : TE) (t : TA) : TE := fun σ H Q => te σ H fun x H1 => ∃ a dx fs, x = .ref a ∧ H1 a = some (.ins C dx fs) ∧ fs.lookup m = none ∧ t σ H1 fun vs H2 => sp (x :: vs) H2 Q (E σ)
/-- C(..), what leaves it told by the slots -/
def tMakeS (C : Addr) (sp : Sp) (E : St → XK) (t : TA) : TE := fun σ H Q => t σ H fun vs H1 => ∀ x dx, H1 x = none → H1 dx = none → dx ≠ x → sp (.ref x :: vs) (upd (upd H1 dx (.own x)) x (.ins C dx [])) (fun v H2 => v = .non ∧ Q (.ref x) H2) (E σ)
section
open PySem.Spec PyProof.Rows
variable {X : Cx} {CX : CXT} {k : Nat} {f C : Addr} {fd : FuncData} {ps : List Str} {sp : Sp} {E : L2.St → XK} {x m : Str} {p pos apos : Pos} {e o : Expr} {es : List Expr} {ta : TE} {t : TA}
theorem pe_methS {pl : Sem Bool} (he : PE X o ta) (c : Cls X.K C) (hm : Meth X.K C m f) (F : FnOk X.prog X.w X.K X.mg X.base CX k f fd ps sp) (hr : Room k X.A) (hb : Binds X.K fd ps []) (hx : ∀ σ, PassesAt CX X σ (E σ)) (ha : PA X (e :: es) t)
    (hst : starEach (e :: es) X.env = (false, eval e X.env) :: starEach es X.env := by rfl) (hpl : (backTo pos (starEach es X.env)).any (·.1) = false := by rfl)
    (ht : eval (.Call (.Attribute o m apos) (e :: es) [] pos) X.env = (do
      let ov ← eval o X.env
      standAt apos.atName
      let (g, first) ← holding [ov] (getMethod ov m pl)
      callWith pos g first (backTo pos (starEach (e :: es) X.env)) (backToKw pos (keywordEach [] X.env))) := by rfl) :
    PE X (.Call (.Attribute o m apos) (e :: es) [] pos) (tMethS C m sp E ta t) := by
  refine ⟨fun pins s σ H Q I h => ?_⟩
  refine PySem.W.methodCall_KW (pl := pl) (thn (he.run pins s σ H _ I h) fun u s1 ⟨x, H1, I1, rx, a, dx, fs, ex, ea, l, q⟩ => ?_) ht
  subst ex
  obtain rfl : u = Value.ref a := rx
  refine getmeth_ok I1 ea c hm l ?_
  refine PySem.W.callWith_K (first := [.ref a]) (h₀ := X.base) I.ok.mod.kin hm.kp (thn (ha.run pos pins s1 σ H1 _ I1 q) fun us s2 ⟨vs, H2, I2, r, q2⟩ => ⟨I2.kIn, ?_⟩) hst hpl
  exact run_fnS (us := .ref a :: us) (vs := .ref a :: vs) F hr hb (hx σ) I2 (.cons rfl r) q2
theorem pe_makeS (M : Mk X.K C f) (F : FnOk X.prog X.w X.K X.mg X.base CX k f fd ps sp) (hr : Room (k + 1) X.A) (hg : Gl X x) (hm : X.mg x = some (.ref C)) (hb : Binds X.K fd ps []) (hx : ∀ σ, PassesAt CX X σ (E σ))
    (ha : PA X (e :: es) t) (hdb : (x == ("__debug__" : Str)) = false := by decide) (he : starEach (e :: es) X.env = (false, eval e X.env) :: starEach es X.env := by rfl) (hpl : (backTo pos (starEach es X.env)).any (·.1) = false := by rfl) :
    PE X (.Call (.Name x p) (e :: es) [] pos) (tMakeS C sp E t) := by
  refine ⟨fun pins s σ H Q I h => ?_⟩
  refine wpAny_Call_Name_kw (ld_glob I hg hm ?_ hdb)
  refine PySem.W.callWith_K (h₀ := X.base) I.ok.mod.kin M.kp (thn (ha.run pos pins s σ H _ I h) fun us s1 ⟨vs, H1, I1, r, q⟩ => ⟨I1.kIn, ?_⟩) he hpl
  have q := q (s1.heap.objs.size + 1) s1.heap.objs.size (I1.hok.fresh (Nat.le_succ _)) (I1.hok.fresh (Nat.le_refl _)) (Nat.ne_of_lt (Nat.lt_succ_self _))
  have I2 := Inv.made (C := C) I1
  have r2 : Vals (V.ref (s1.heap.objs.size + 1) :: vs) (Value.ref (s1.heap.objs.size + 1) :: us) := .cons rfl r
  have hl : (Value.ref (s1.heap.objs.size + 1) :: us).length = ps.length := by
    have e := r2.length
    rw [F.len _ _ _ _ q] at e
    exact e.symm
  have b := hb _ (Value.ref (s1.heap.objs.size + 1) :: us) I2.kIn (by rw [List.append_nil]; exact hl)
  rw [List.append_nil] at b
  refine wpAny_call (make_map (f := f) I1.kIn M.makes M.init (beq_iff_eq.mp M.fn) (codeAny_mono (F.run _ X.stack _ _ ⟨Value.ref (s1.heap.objs.size + 1) :: us, []⟩ (Value.ref (s1.heap.objs.size + 1) :: us) _ _ (E σ) (hr.make C us []) (I2.env0.make C us []) b r2 q) fun r s' hq' => ?_))
  cases r with
  | error e => exact hx σ pins _ _ e s' I2 hq'
  | ok fl =>
    cases fl with
    | ret u =>
      obtain ⟨v, H', I3, rv, ev, q3⟩ := I2.after hq'
      subst ev
      exact ⟨rv, ⟨V.ref (s1.heap.objs.size + 1), H', I3, rfl, q3⟩⟩
    | next => exact False.elim hq'
    | brk => exact False.elim hq'
    | cont => exact False.elim hq'
end
section
variable {K : PySem.W.Frag} {E : XK} {G H : Hp} {al : List Addr} {M M1 M2 M3 : List Cell} {s : List Sl} {te : TE} {ta : TA} {w : W} {ws : List W} {o : Out} {C : Addr} {fs : List (Str × W)} {m : Str} {j i n : Nat} {T : List Cell → List W → Res → Prop} {c : Addr} {cls : Value} {ts : Addr → Value → Option Addr → TS}
/-- x = o.m(..) within a try -/
theorem Big.tryAM_ok (ho : Ev K te s M (.cel j) M1) (hm : M1[j]? = some (.ins C fs)) (hl : fs.lookup m = none) (ha : EvA K ta s M1 ws M2) (hT : T M2 (.cel j :: ws) (.ret w M3)) :
    Big K E (tTry K c i ts fun W => tAsg (tMethS C m (spOf K T) (WE W) te ta) (gName n)) s M (.nx (s.set n (some w)) M3) := fun G al σ H D k r p =>
  ho G al σ H k r _ fun v G1 al1 H1 k1 l1 r1 => by
    obtain ⟨a, ea, rfl⟩ := r1
    obtain ⟨dx, fxs, h1, h2⟩ := k1.ce j a _ ea hm
    refine ⟨a, dx, fxs, rfl, h1, (fr_lookup h2).2 hl, ha G1 al1 σ H1 k1 (r.up l1) _ fun vs G2 al2 H2 k2 l2 r2 => ?_⟩
    have l := l1.trans k1 k.kn l2
    exact ⟨M2, _, _, hT, G2, al2, k2, .cons (WR.up (w := .cel j) ⟨a, ea, rfl⟩ l2) r2, fun v3 G3 al3 H3 k3 l3 r3 => p _ G3 al3 H3 k3 (l.trans k2 k.kn l3) (sr_set (r.up (l.trans k2 k.kn l3)) r3)⟩
theorem try_erM {σ : St} {D : Ends} {g : VK} (k : Ok K G al M H) (r : SR K G al s σ) (ho : Ev K te s M (.cel j) M1) (hm : M1[j]? = some (.ins C fs)) (hl : fs.lookup m = none) (ha : EvA K ta s M1 ws M2) (hT : T M2 (.cel j :: ws) (.rz cls M3)) (hx : PySem.W.exmOne K cls (.ref c) = some true) (hs : ∀ a, Big K E (ts a cls none) (s.set i (some (.raw a))) M3 o) (p : Post K E D G al H (outU i o)) :
    tMethS C m (spOf K T) (WE (wAs K (.ref c) i ts (fun _ _ _ _ => False) D)) te ta σ H g :=
  ho G al σ H k r _ fun v G1 al1 H1 k1 l1 r1 => by
    obtain ⟨a, ea, rfl⟩ := r1
    obtain ⟨dx, fxs, h1, h2⟩ := k1.ce j a _ ea hm
    refine ⟨a, dx, fxs, rfl, h1, (fr_lookup h2).2 hl, ha G1 al1 σ H1 k1 (r.up l1) _ fun vs G2 al2 H2 k2 l2 r2 => ?_⟩
    have l := l1.trans k1 k.kn l2
    exact ⟨M2, _, _, hT, G2, al2, k2, .cons (WR.up (w := .cel j) ⟨a, ea, rfl⟩ l2) r2, try_er k2 (r.up l) hx hs (Post.up p k k2 l)⟩
theorem Big.tryAM_er (ho : Ev K te s M (.cel j) M1) (hm : M1[j]? = some (.ins C fs)) (hl : fs.lookup m = none) (ha : EvA K ta s M1 ws M2) (hT : T M2 (.cel j :: ws) (.rz cls M3)) (hx : PySem.W.exmOne K cls (.ref c) = some true) (hs : ∀ a, Big K E (ts a cls none) (s.set i (some (.raw a))) M3 o) :
    Big K E (tTry K c i ts fun W => tAsg (tMethS C m (spOf K T) (WE W) te ta) (gName n)) s M (outU i o) := fun G al σ H D k r p => try_erM k r ho hm hl ha hT hx hs p
theorem Big.tryDM_er (ho : Ev K te s M (.cel j) M1) (hm : M1[j]? = some (.ins C fs)) (hl : fs.lookup m = none) (ha : EvA K ta s M1 ws M2) (hT : T M2 (.cel j :: ws) (.rz cls M3)) (hx : PySem.W.exmOne K cls (.ref c) = some true) (hs : ∀ a, Big K E (ts a cls none) (s.set i (some (.raw a))) M3 o) :
    Big K E (tTry K c i ts fun W => tDrop (tMethS C m (spOf K T) (WE W) te ta)) s M (outU i o) := fun G al σ H D k r p => try_erM k r ho hm hl ha hT hx hs p
/-- C(..) within a try, refused -/
theorem Big.tryDK_er (ha : EvA K ta s M ws M1) (hT : T (M1 ++ [.ins C []]) (.cel M1.length :: ws) (.rz cls M2)) (hx : PySem.W.exmOne K cls (.ref c) = some true) (hs : ∀ a, Big K E (ts a cls none) (s.set i (some (.raw a))) M2 o) :
    Big K E (tTry K c i ts fun W => tDrop (tMakeS C (spOf K T) (WE W) ta)) s M (outU i o) := fun G al σ H D k r p =>
  ha G al σ H k r _ fun vs G1 al1 H1 k1 l1 r1 x dx hx1 hd ne => by
    obtain ⟨k2, l2⟩ := k1.made (C := C) hx1 hd ne
    have rx : WR K G1 (al1 ++ [x]) (.cel M1.length) (.ref x) := ⟨x, by rw [← k1.len, List.getElem?_append_right (Nat.le_refl _), Nat.sub_self] <;> rfl, rfl⟩
    have l := l1.trans k1 k.kn l2
    exact ⟨_, _, _, hT, G1, al1 ++ [x], k2, .cons rx (paired_imp (fun _ _ z => z.up l2) r1), try_er k2 (r.up l) hx hs (Post.up p k k2 l)⟩
end
end Vx

set_option Elab.async false
set_option linter.all false
set_option maxRecDepth 100000
set_option maxHeartbeats 4000000
/-! Vz: tuples sliced and walked in a comprehension -/
namespace Vx
open PySem L2
section
variable {K : PySem.W.Frag} {E : XK} {G H : Hp} {al : List Addr} {M M1 M2 M3 : List Cell} {s : List Sl} {σ : St} {te tl : TE} {tt : TT} {w : W} {ds : List PyData} {n : Nat}
/-- t[lo:hi], not the whole -/
theorem Ev.slT {tl th : TO} {lo hi : Option Int} (h : Ev K te s M (dt ds) M1) (h1 : EvO K tl s M1 lo M2) (h2 : EvO K th s M2 hi M3) (hn : ¬ (HT.sIx ds.length 0 lo = 0 ∧ HT.sIx ds.length ds.length hi = ds.length)) : Ev K (tSl (rSlT K) te tl th) s M (dt (cutW ds lo hi)) M3 := fun G al σ H k sr Q q =>
  h G al σ H k sr _ fun v G1 al1 H1 k1 l1 r1 => h1 G1 al1 σ H1 k1 (sr.up l1) _ fun G2 al2 H2 k2 l2 => h2 G2 al2 σ H2 k2 (sr.up (l1.trans k1 k.kn l2)) _ fun G3 al3 H3 k3 l3 => by
    have r3 : WR K G3 al3 (dt ds) v := (r1.up l2).up l3
    cases r3 with
    | tup e1 q1 =>
      have hl := dqa_len q1
      refine ⟨_, _, rfl, .of (k3.ex _ _ e1), by rw [hl]; exact hn, alloc_tup k3 ?_ (q.up k k3 ((l1.trans k1 k.kn l2).trans k2 k.kn l3))⟩
      unfold cutV cutW
      rw [hl]
      exact dqa_take _ (dqa_drop _ q1)
variable {α : Type} {xs : List α} {enc : α → PyData} {p : α → Bool} {f : α → PyData}
theorem tup_sq {v : V} (k : Ok K G al M H) (h : WR K G al (dt ds) v) : ∃ a xs, v = .ref a ∧ SqT K H a xs ∧ DqA G xs ds := by
  cases h with
  | tup e1 q1 => exact ⟨_, _, rfl, .of (k.ex _ _ e1), q1⟩
/-- [e for x in t if ..], t a tuple -/
theorem Ev.lcT (he : Ev K tl s M (dt (xs.map enc)) M) (hz : xs.length ≤ 1000000) (ht : ∀ a ∈ xs, EvB K tt (s.set n (some (.dat (enc a)))) M (p a) M) (hf : ∀ a ∈ xs, p a = true → Ev K te (s.set n (some (.dat (enc a)))) M (.dat (f a)) M) :
    Ev K (tLc (iTup K tl) (gName n) tt te [n]) s M (dl ((xs.filter p).map f)) M := fun G al σ H k r Q q => he G al σ H k r _ fun v G1 al1 H1 k1 l1 r1 => by
  obtain ⟨a, ys, rfl, h1, h2⟩ := tup_sq k1 r1
  have al2 : ∀ G' H', Ok K G' al1 M H' → Le G1 al1 H1 G' al1 H' → ∃ ys', SqT K H' a ys' ∧ DqA G' ys' (xs.map enc) := fun G' H' k' l' => by
    obtain ⟨a', ys', e', h1', h2'⟩ := tup_sq k' (r1.up l')
    cases e'
    exact ⟨ys', h1', h2'⟩
  refine ⟨a, rfl, ⟨ys, h1⟩, lc_coreV (enc := fun a => .dat (enc a)) k1 (r.up l1) hz (fun G' H' k' l' => ?_) (fun i G' H' hi k' l' => ?_) (fun i x a' G' H' H2 ha k' l' y => ?_) ht hf fun Dl G' acc H' a1 a2 a3 a4 a5 a6 => lc_dat (q.up k k1 l1) k1 a1 a2 a3 a4 a5 a6⟩
  · obtain ⟨ys', h1', h2'⟩ := al2 G' H' k' l'
    exact ⟨ys', h1', by rw [dqa_len h2', List.length_map]; exact Nat.le_refl _⟩
  · obtain ⟨ys', h1', h2'⟩ := al2 G' H' k' l'
    exact ⟨ys', ys'[i]'(by rw [dqa_len h2', List.length_map]; exact hi), h1', List.getElem?_eq_getElem _⟩
  · obtain ⟨ys', h1', h2'⟩ := al2 G' H' k' l'
    obtain ⟨e2, y⟩ := y
    have hx := y ys' h1'
    obtain ⟨x', e3, r3⟩ := dqa_get h2' (i := i) (d := enc a') (by rw [List.getElem?_map, ha] <;> rfl)
    rw [hx] at e3
    cases e3
    exact ⟨e2, r3⟩
end
end Vx

set_option Elab.async false
set_option linter.all false
set_option maxRecDepth 100000
set_option maxHeartbeats 4000000
/-! B3: the law's own look at a refusal's class -/
namespace Bk
open PySem L2 Vx HotP
/-- the nine classes in the law's order -/
def Xs.nine (X : Xs) : List Addr := [X.BadCount, X.BadDebt, X.BadCut, X.Uneven, X.BadPrices, X.NotBest, X.NoDebt, X.NoHouse, X.BadAmount]
def nineW : List Str := ["count", "debt", "cut", "uneven", "prices", "not best", "number", "house", "amount"]
/-- the class D is the j-th of the nine and no other one -/
structure KitOk (K : PySem.W.Frag) (X : Xs) (D : Addr) (j : Nat) : Prop where
  c : ExcC K D
  d : PySem.W.exmOne K (.ref D) (.ref X.DebtError) = some true
  k : ∀ i, i < 9 → PySem.W.kitOne K (.ref D) (.ref (X.nine.getD i 0)) = some (decide (i = j))
  v : PySem.W.kitOne K (.ref D) (.type "ValueError") = some true
theorem kit_ref {K : PySem.W.Frag} {D C : Addr} {b : Bool} (hne : D ≠ C) (hd : PySem.W.hasDictIn K C = true) (ht : PySem.W.typeIn K (.ref C) = some (.type "type")) (hs : PySem.W.subIn K (.ref D) (.ref C) = some b) : PySem.W.kitOne K (.ref D) (.ref C) = some b := by
  obtain ⟨cd, hc, _⟩ := PySem.W.any_some hd
  unfold PySem.W.kitOne PySem.W.kitCls
  rw [if_neg (fun z => hne (Value.ref.inj (beq_iff_eq.mp z)))]
  dsimp only
  rw [hc, ht, if_pos (by rw [beq_self_eq_true] <;> rfl)]
  exact hs
theorem kit_self {K : PySem.W.Frag} {D : Addr} : PySem.W.kitOne K (.ref D) (.ref D) = some true := by
  unfold PySem.W.kitOne
  rw [if_pos (beq_self_eq_true _)]
theorem kit_val {K : PySem.W.Frag} {D : Addr} {b : Bool} (hs : PySem.W.subIn K (.ref D) (.type "ValueError") = some b) : PySem.W.kitOne K (.ref D) (.type "ValueError") = some b := by
  unfold PySem.W.kitOne PySem.W.kitCls
  rw [if_neg (fun z => by have q := beq_iff_eq.mp z; cases q)]
  dsimp only
  rw [if_pos (by decide +kernel)]
  exact hs
theorem kit_mk {K : PySem.W.Frag} {X : Xs} {D : Addr} {j : Nat} (c : ExcC K D) (d : PySem.W.exmOne K (.ref D) (.ref X.DebtError) = some true) (v : PySem.W.kitOne K (.ref D) (.type "ValueError") = some true)
    (f0 : PySem.W.kitOne K (.ref D) (.ref X.BadCount) = some (decide (0 = j))) (f1 : PySem.W.kitOne K (.ref D) (.ref X.BadDebt) = some (decide (1 = j))) (f2 : PySem.W.kitOne K (.ref D) (.ref X.BadCut) = some (decide (2 = j)))
    (f3 : PySem.W.kitOne K (.ref D) (.ref X.Uneven) = some (decide (3 = j))) (f4 : PySem.W.kitOne K (.ref D) (.ref X.BadPrices) = some (decide (4 = j))) (f5 : PySem.W.kitOne K (.ref D) (.ref X.NotBest) = some (decide (5 = j)))
    (f6 : PySem.W.kitOne K (.ref D) (.ref X.NoDebt) = some (decide (6 = j))) (f7 : PySem.W.kitOne K (.ref D) (.ref X.NoHouse) = some (decide (7 = j))) (f8 : PySem.W.kitOne K (.ref D) (.ref X.BadAmount) = some (decide (8 = j))) : KitOk K X D j := by
  refine ⟨c, d, fun i hi => ?_, v⟩
  match i, hi with
  | 0, _ => exact f0
  | 1, _ => exact f1
  | 2, _ => exact f2
  | 3, _ => exact f3
  | 4, _ => exact f4
  | 5, _ => exact f5
  | 6, _ => exact f6
  | 7, _ => exact f7
  | 8, _ => exact f8
def T_qkind (K : PySem.W.Frag) (X : Xs) (e D : Addr) (M : List Cell) (ws : List W) (o : Res) : Prop := ∃ j, j < 9 ∧ KitOk K X D j ∧ ws = [.raw e] ∧ o = .ret (ds_ (nineW.getD j "")) M
def u_qkind (K : PySem.W.Frag) (p : Pin) (C : Addr) (w : Str) : TS := (tIfS (tB (tCB (rIsP K p) (tCons (tVar 0) (tCons (tC (.ref C)) tNil)))) (tDrop (tBM K "list" rAppend (tVar 1) (tCons (tC (.str w)) tNil))) tNext)
def t_qkind (K : PySem.W.Frag) (X : Xs) (p : Pin) : TS := (tSeq (tAsg (tLst tNil) (gName 1))
    (tSeq (u_qkind K p X.BadCount "count") (tSeq (u_qkind K p X.BadDebt "debt") (tSeq (u_qkind K p X.BadCut "cut") (tSeq (u_qkind K p X.Uneven "uneven") (tSeq (u_qkind K p X.BadPrices "prices")
    (tSeq (u_qkind K p X.NotBest "not best") (tSeq (u_qkind K p X.NoDebt "number") (tSeq (u_qkind K p X.NoHouse "house") (tSeq (u_qkind K p X.BadAmount "amount")
    (tSeq (tIfS (tOr (tTest (tOp rNe (tCB (rLenX K) (tCons (tVar 1) tNil)) (tC (.int 1)))) (tNot (tB (tCB (rIsP K p) (tCons (tVar 0) (tCons (tC (.ty "ValueError")) tNil)))))) (tRet (tC (.str "other"))) tNext)
    (tRet (tOp (rIx K) (tVar 1) (tC (.int 0)))))))))))))))
section
variable {K : PySem.W.Frag} {E : XK} {M : List Cell} {ws : List W} {o : Res} {X : Xs} {p : Pin} {D : Addr} {j : Nat}
theorem kind_step {i : Nat} {l : List W} (h : KitOk K X D j) (hz : Zc (.ref D) none p.2) (hv : ∃ vs, p.2.data = .fields vs) (hi : i < 9) (hl : l.length ≤ 1000) :
    Big K E (u_qkind K p (X.nine.getD i 0) (nineW.getD i "")) [some (.raw p.1), some (.cel (M.length + 0))] (M ++ [.lst l]) (.nx [some (.raw p.1), some (.cel (M.length + 0))] (M ++ [.lst (if i = j then l ++ [ds_ (nineW.getD i "")] else l)])) := by
  refine .ite (b := decide (i = j)) (.val (.isP (.var rfl) h.c hz hv (fun u r => r) (h.k i hi))) (fun q => ?_) (fun q => ?_)
  · rw [if_pos (of_decide_eq_true q)]
    exact .appendL (k := 0) (w := ds_ (nineW.getD i "")) (.var rfl) .str rfl (by omega)
  · rw [if_neg (of_decide_eq_false q)]
    exact .next
theorem kind_sum {j : Nat} (hj : j < 9) : ((List.range 9).foldl (fun (l : List W) i => if i = j then l ++ [ds_ (nineW.getD i "")] else l) []) = [ds_ (nineW.getD j "")] := by
  match j, hj with
  | 0, _ => rfl
  | 1, _ => rfl
  | 2, _ => rfl
  | 3, _ => rfl
  | 4, _ => rfl
  | 5, _ => rfl
  | 6, _ => rfl
  | 7, _ => rfl
  | 8, _ => rfl
theorem kind_len (j : Nat) : ∀ (is : List Nat) (l : List W), (is.foldl (fun (l : List W) i => if i = j then l ++ [ds_ (nineW.getD i "")] else l) l).length ≤ l.length + is.length
  | [], l => Nat.le_refl _
  | i :: is, l => by
    rw [List.foldl_cons]
    refine Nat.le_trans (kind_len j is _) ?_
    rw [List.length_cons]
    split
    · rw [List.length_append, List.length_singleton]
      omega
    · omega
theorem big_qkind (hz : Zc (.ref D) none p.2) (hv : ∃ vs, p.2.data = .fields vs) (h : T_qkind K X p.1 D M ws o) : BigF K E (t_qkind K X p) (args 2 ws) M o := by
  obtain ⟨j, hj, kit, rfl, rfl⟩ := h
  have ln : ∀ n, n ≤ 9 → ((List.range n).foldl (fun (l : List W) i => if i = j then l ++ [ds_ (nineW.getD i "")] else l) []).length ≤ 1000 := fun n hn => by
    have := kind_len j (List.range n) []
    rw [List.length_range, List.length_nil] at this
    omega
  have st : ∀ (i : Nat) (C : Addr) (w : Str) (u : TS) {o : Out}, i < 9 → X.nine.getD i 0 = C → nineW.getD i "" = w → Big K E u [some (.raw p.1), some (.cel (M.length + 0))] (M ++ [.lst ((List.range (i + 1)).foldl (fun (l : List W) i => if i = j then l ++ [ds_ (nineW.getD i "")] else l) [])]) o → Big K E (tSeq (u_qkind K p C w) u) [some (.raw p.1), some (.cel (M.length + 0))] (M ++ [.lst ((List.range i).foldl (fun (l : List W) i => if i = j then l ++ [ds_ (nineW.getD i "")] else l) [])]) o := by
    intro i C w u o hi e1 e2 q
    subst e1 e2
    rw [List.range_succ, List.foldl_append] at q
    exact .seq (kind_step kit hz hv hi (ln i (by omega))) q
  have e := kind_sum hj
  refine .dat (N0 := [.lst [ds_ (nineW.getD j "")]]) (.seq (s1 := [some (.raw p.1), some (.cel (M.length + 0))]) (M1 := M ++ [.lst []]) (.asg (.lstC ea_nil (by decide)))
    ?_)
  refine st 0 X.BadCount "count" _ (by decide) rfl rfl ?_
  refine st 1 X.BadDebt "debt" _ (by decide) rfl rfl ?_
  refine st 2 X.BadCut "cut" _ (by decide) rfl rfl ?_
  refine st 3 X.Uneven "uneven" _ (by decide) rfl rfl ?_
  refine st 4 X.BadPrices "prices" _ (by decide) rfl rfl ?_
  refine st 5 X.NotBest "not best" _ (by decide) rfl rfl ?_
  refine st 6 X.NoDebt "number" _ (by decide) rfl rfl ?_
  refine st 7 X.NoHouse "house" _ (by decide) rfl rfl ?_
  refine st 8 X.BadAmount "amount" _ (by decide) rfl rfl ?_
  show Big K E _ _ (M ++ [.lst ((List.range 9).foldl (fun (l : List W) i => if i = j then l ++ [ds_ (nineW.getD i "")] else l) [])]) _
  rw [e]
  refine .retIf (b := false || !true) (.or (.is (.test (.ne (.lenG (.var rfl) (.lst (.cel (getL rfl)))) .int (.int _ _))) rfl) fun _ => .not (.val (.isP (.var rfl) kit.c hz hv (fun u r => r) kit.v))) (fun z => nomatch z) (fun _ => .ret (.ixG (.var rfl) .int (.lst (.cel (getL rfl)) rfl))) ⟨_, _, rfl⟩
end
end Bk

set_option Elab.async false
set_option linter.all false
set_option maxRecDepth 100000
set_option maxHeartbeats 4000000
/-! L01: law k01 -/
namespace Bk
open PySem L2 Vx
local macro_rules | `(tactic| walk_at "ev") => `(tactic| repeat' first
  | exact Ev.var rfl | exact Ev.int | exact Ev.bl | exact Ev.str | exact Ev.non | exact ea_nil
  | apply Ev.add | apply Ev.sub | apply Ev.lt | apply Ev.le | apply Ev.gt | apply Ev.ge
  | apply Ev.mul | apply Ev.mod | apply Ev.div | apply Ev.pow
  | apply Ev.ixG | apply Ev.eq | apply Ev.ne | apply Ev.lenG | apply ed_cons
  | apply ea_cons | apply Ev.tup | apply EvB.val | apply EvB.test | apply EvB.not
  | apply Ev.isT | apply Ev.not | exact Nat.le_of_ble_eq_true rfl | exact EqOf.int _ _ | exact EqOf.bl _ _ | exact EqOf.str _ _
  | exact IxOf.tup rfl | exact LenOf.map | exact LenOf.dl | exact LenOf.tup _ | exact LstOf.dat _ | exact LstOf.scr _ | exact LstOf.cel rfl | exact LstOf.cel (getL rfl))

theorem isDebt_ok {c : Nat} {d : Dt} (h : DtOk c d) : isDebt (c : Int) (encD d) = true := by
  have h1 := h.a
  have h2 := h.b
  have h3 := h.ne
  have h4 := h.lo
  have h5 := h.hi
  show (((decide ((0 : Int) ≤ d.a) && decide ((d.a : Int) ≤ (c : Int) - 1)) && (decide ((0 : Int) ≤ d.b) && decide ((d.b : Int) ≤ (c : Int) - 1))) && ((!decide ((d.a : Int) = (d.b : Int))) && (decide (1 ≤ d.m) && decide (d.m ≤ 1000000000)))) = true
  rw [decide_eq_true (by omega), decide_eq_true (by omega), decide_eq_true (by omega), decide_eq_true (by omega), decide_eq_false (by omega), decide_eq_true (by omega), decide_eq_true (by omega)] <;> rfl
theorem chk_ok {X : Xs} {M : List Cell} {c : Nat} {ds : List Dt} (h : Book c ds) : chk X M (.int c) (.list (encDs ds)) = .ret (.cel M.length) (M ++ [.lst ((encDs ds).map .dat)]) := by
  have h1 := h.lo
  have h2 := h.hi
  have h3 := h.len
  unfold chk
  rw [if_pos (show wh 1 20 (.int c) = true by show (decide _ && decide _) = true; rw [decide_eq_true (by omega), decide_eq_true (by omega)] <;> rfl)]
  dsimp only
  have ha : (encDs ds).all (isDebt (c : Int)) = true := by
    rw [List.all_eq_true]
    intro x hx
    obtain ⟨d, hd, rfl⟩ := List.mem_map.mp hx
    exact isDebt_ok (h.ok d hd)
  rw [if_pos ⟨by rw [List.length_map]; omega, ha⟩]
theorem pI_encD (d : Dt) : pI 1 (encD d) = true := rfl
theorem pI_encDs (ds : List Dt) : pI 2 (.list (encDs ds)) = true := pI_map fun d _ => pI_encD d
theorem Book.ab {c : Nat} {ds : List Dt} (h : Book c ds) : ∀ d ∈ ds, d.a < c ∧ d.b < c := fun d hd => ⟨(h.ok d hd).a, (h.ok d hd).b⟩
theorem lst_enc {M : List Cell} {ds : List Dt} : LstOf M (dl (encDs ds)) (ds.map fun d => .dat (encD d)) := by
  have q := LstOf.dat (M := M) (encDs ds)
  rw [List.map_map] at q
  exact q
section
variable {K : PySem.W.Frag} {E : XK} {M : List Cell} {ws : List W} {o : Res}
def T_law01 (M : List Cell) (ws : List W) (o : Res) : Prop := ∃ ns : List Int, ns.length ≤ 63 ∧ ws = [.scr ns] ∧ o = .ret (db true) M
def u_law01 (K : PySem.W.Frag) (X : Xs) : TS := (tSeq (tAsg (tCB (rListX K) (tCons (tVar 2) tNil)) (gName 3))
    (tSeq (tIfS (tNot (tB (tCall (spOf K T_qnumbers) [] E0 (tCons (tCall (spOf K T_balances) [] E0 (tCons (tVar 1) (tCons (tVar 3) tNil))) (tCons (tCall (spOf K T_qbalances) [] E0 (tCons (tVar 1) (tCons (tVar 2) tNil))) tNil))))) (tRet (tC (.bl false))) tNext)
    (tSeq (tAsg (tCall (spOf K T_total) [] E0 (tCons (tVar 3) tNil)) (gName 4))
    (tSeq (tIfS (tOr (tNot (tB (tCall (spOf K T_qwhole) [] E0 (tCons (tVar 4) tNil)))) (tTest (tOp rNe (tVar 4) (tCB (rSum K) (tCons (tLc (iList K (tVar 2)) (gName 6) tYes (tOp (rIx K) (tVar 6) (tC (.int 2))) [6]) tNil))))) (tRet (tC (.bl false))) tNext)
    (tSeq (tAsg (tCall (spOf K (T_checked X)) [] E0 (tCons (tVar 1) (tCons (tVar 3) tNil))) (gName 5))
    (tSeq (tIfS (tOr (tNot (tB (tCB (rIsi K) (tCons (tVar 5) (tCons (tC (.ty "list")) tNil))))) (tTest (tOp (rNeD K) (tVar 5) (tVar 2)))) (tRet (tC (.bl false))) tNext)
    (tSeq (tDrop (tBM K "list" rAppend (tVar 5) (tCons (tTup (tCons (tC (.int 0)) (tCons (tC (.int 1)) (tCons (tC (.int 1)) tNil)))) tNil)))
    (tSeq (tDrop (tBM0 K "list" rClear (tVar 5)))
    (tRet (tOp (rEqD K) (tVar 3) (tVar 2)))))))))))
def t_law01 (K : PySem.W.Frag) (X : Xs) : TS := (tSeq (tAsg (tCall (spOf K T_qcount) [] E0 (tCons (tVar 0) tNil)) (gName 1))
    (tSeq (tAsg (tCall (spOf K T_qdebts) [] E0 (tCons (tVar 0) (tCons (tC (.int 2)) (tCons (tVar 1) tNil)))) (gName 2))
    (tSeq (tIfS (tTest (tOp rEq (tOp xMod (tCall (spOf K T_qcell_at) [] E0 (tCons (tVar 0) (tCons (tC (.int 0)) tNil))) (tC (.int 13))) (tC (.int 7)))) (tSeq (tAsg (tC (.int 1)) (gName 1))
    (tAsg (tLst tNil) (gName 2))) tNext)
    (u_law01 K X))))
theorem rest01 {X : Xs} {w0 : W} {c : Nat} {ds : List Dt} (h : Book c ds) : Big K E (u_law01 K X) [some w0, some (di c), some (dl (encDs ds)), none, none, none, none] M (.rt (db true) (M ++ [.lst []])) := by
  have hc : c ≤ 1000 := Nat.le_trans h.hi (by decide)
  have hl : ds.length ≤ 1000 := Nat.le_trans h.len (by decide)
  have e1 : ∀ e : PyData, [some w0, some (di c), some (dl (encDs ds)), some (dl (encDs ds)), some (.dat e), none, none][2]? = some (some (dl (encDs ds))) := fun _ => rfl
  refine .st (w := dl (encDs ds)) (.list (.var rfl) (.dat _)) (.retIf (b := !true) ?_ (fun z => nomatch z) (fun _ => .st (w := di (ds.map (·.m)).sum) (.call (ea_cons (.var rfl) ea_nil) ⟨ds, rfl, hl, rfl⟩) (.retIf (b := !true || !decide ((ds.map (·.m)).sum = (ds.map (·.m)).sum)) (.or ?_ fun _ => ?_) (fun z => by simp at z) (fun _ => ?_) ⟨_, _, rfl⟩)) ⟨_, _, rfl⟩)
  · refine .not (.val (.call (w := db true) (ea_cons (.call (ea_cons (.var rfl) (ea_cons (.var rfl) ea_nil)) ⟨c, ds, rfl, hc, h.ab, rfl⟩) (ea_cons (.call (ea_cons (.var rfl) (ea_cons (.var rfl) ea_nil)) ⟨c, ds, rfl, hc, h.ab, rfl⟩) ea_nil)) ⟨bal c ds, rfl, rfl⟩))
  · exact .not (.val (.call (ea_cons (.var rfl) ea_nil) ⟨_, rfl, rfl⟩))
  · refine .test (.ne (.var rfl) (.sumL (w := dl (ds.map fun d => .int d.m)) (.lcL1 (enc := fun d => .dat (encD d)) (.var rfl) lst_enc (by omega) fun d _ => .ixG (.var rfl) .int (.tup rfl)) ?_) (.int _ _))
    have q := LstOf.dat (M := M) (ds.map fun d => PyData.int d.m)
    rw [List.map_map] at q ⊢
    exact q
  · have hk : Ev K (tCall (spOf K (T_checked X)) [] E0 (tCons (tVar 1) (tCons (tVar 3) tNil))) [some w0, some (di c), some (dl (encDs ds)), some (dl (encDs ds)), some (di (ds.map (·.m)).sum), none, none] M (.cel M.length) (M ++ [.lst ((encDs ds).map .dat)]) :=
      .call (ea_cons (.var rfl) (ea_cons (.var rfl) ea_nil)) (Or.inl ⟨_, _, rfl, (chk_ok h).symm⟩)
    refine .seq (s1 := [some w0, some (di c), some (dl (encDs ds)), some (dl (encDs ds)), some (di (ds.map (·.m)).sum), some (.cel (M.length + 0)), none]) (.asg hk) (.retIf (b := !true || !true) (.or (.not (.val (.isiL (T := "list") (.var rfl) (.cel (getL rfl)) (fun _ z => nomatch z) rfl (by decide +kernel)))) fun _ => .test (.neP 2 (.var rfl) (.var rfl) (.cel (getL rfl)) (.dat _) (by decide) (pI_encDs ds) (pI_encDs ds) (by simp))) (fun z => by simp at z) (fun _ => ?_) ⟨_, _, rfl⟩)
    refine .seq (.appendL (k := 0) (w := dt [.int 0, .int 1, .int 1]) (.var rfl) ?_ rfl ?_) (.seq (.clearL (k := 0) (.var rfl) rfl) (.ret (.eqP 2 (.var rfl) (.var rfl) (.dat _) (.dat _) (by decide) (pI_encDs ds) (pI_encDs ds) (by simp))))
    · walk_at "ev"
    · rw [List.length_map, List.length_map]
      omega
theorem big_law01 {X : Xs} (h : T_law01 M ws o) : BigF K E (t_law01 K X) (args 7 ws) M o := by
  obtain ⟨ns, _, rfl, rfl⟩ := h
  obtain ⟨h2, h20⟩ := count_ok ns
  refine .dat (N0 := [.lst []]) (.st (.call (ea_cons (.var rfl) ea_nil) ⟨ns, rfl, rfl⟩) (.st (.call (w := dl (encDs (debts ns 2 (count ns)))) (ea_cons (.var rfl) (ea_cons .int (ea_cons (.var rfl) ea_nil))) ⟨ns, 2, count ns, rfl, h2, h20, rfl⟩) (.seqIte (b := decide (cellAt ns 0 % 13 = 7)) ?_ (fun _ => .assoc (.st .int (.st (w := dl []) (.lst ea_nil (by decide)) ?_))) (fun _ => .seqN (rest01 (debts_ok h2 h20).1)))))
  · refine .test (.eq (.mod (.call (w := di (cellAt ns 0)) (ea_cons (.var rfl) (ea_cons .int ea_nil)) ⟨ns, 0, rfl, rfl⟩) .int (by decide)) .int (.int _ _))
  · exact rest01 (c := 1) (ds := []) ⟨by decide, by decide, by decide, fun d hd => nomatch hd⟩
end
end Bk

set_option Elab.async false
set_option linter.all false
set_option maxRecDepth 100000
set_option maxHeartbeats 4000000
/-! C04: paid_up, order, walked, ring -/
namespace Bk
open PySem L2 Vx RevL
local macro_rules | `(tactic| walk_at "ev") => `(tactic| repeat' first
  | exact Ev.var rfl | exact Ev.int | exact Ev.bl | exact Ev.str | exact Ev.non | exact ea_nil
  | apply Ev.add | apply Ev.sub | apply Ev.lt | apply Ev.le | apply Ev.gt | apply Ev.ge
  | apply Ev.mul | apply Ev.mod | apply Ev.div | apply Ev.pow
  | apply Ev.ixG | apply Ev.eq | apply Ev.ne | apply Ev.lenG | apply ed_cons
  | apply ea_cons | apply Ev.tup | apply EvB.val | apply EvB.test | apply EvB.not
  | apply Ev.isT | apply Ev.not | exact Nat.le_of_ble_eq_true rfl | exact EqOf.int _ _ | exact EqOf.bl _ _ | exact EqOf.str _ _
  | exact IxOf.tup rfl | exact LenOf.map | exact LenOf.dl | exact LenOf.tup _ | exact LstOf.dat _ | exact LstOf.scr _ | exact LstOf.cel rfl | exact LstOf.cel (getL rfl))
/-- a list of places or houses -/
abbrev nI (l : List Nat) : List PyData := l.map fun n : Nat => PyData.int (n : Int)
theorem nI_int (l : List Nat) : nI l = (l.map fun n : Nat => (n : Int)).map PyData.int := by rw [List.map_map] <;> rfl
theorem nI_dat (l : List Nat) : (nI l).map W.dat = l.map natW := by rw [List.map_map] <;> rfl
theorem mem_ints {l : List Nat} {n : Nat} : ((n : Int) ∈ l.map fun n : Nat => (n : Int)) ↔ n ∈ l := by
  rw [List.mem_map]
  constructor
  · rintro ⟨m, hm, e⟩
    have : m = n := by omega
    exact this ▸ hm
  · exact fun h => ⟨n, h, rfl⟩
theorem dbd {P Q : Prop} [Decidable P] [Decidable Q] (h : P ↔ Q) : db (decide P) = db (decide Q) := congrArg db (decide_eq_decide.mpr h)
theorem at_nat {α : Type} {l : List α} {n : Nat} {d : α} (h : n < l.length) : atI l (n : Int) = some (l.getD n d) := atI_nat (by rw [List.getD_eq_getElem?_getD, List.getElem?_eq_getElem h] <;> rfl)
section
variable {K : PySem.W.Frag} {E : XK} {M : List Cell} {ws : List W} {o : Res}
def there (c : Nat) (g : List Nat) : List Nat := (List.range c).filter fun h => !decide (h ∈ g)
theorem there_mem {c : Nat} {g : List Nat} {h : Nat} : h ∈ there c g ↔ h < c ∧ h ∉ g := by
  unfold there
  rw [List.mem_filter, List.mem_range, Bool.not_eq_true', decide_eq_false_iff_not]
theorem there_snoc {c : Nat} {g : List Nat} {h : Nat} : (there c g).filter (fun x => decide (x ≠ h)) = there c (g ++ [h]) := by
  unfold there
  rw [List.filter_filter]
  apply List.filter_congr
  intro x _
  by_cases e : x = h
  · subst e
    simp
  · simp [e]
def T_paid_up (M : List Cell) (ws : List W) (o : Res) : Prop := ∃ (c : Nat) (ds : List Dt), ws = [di c, dl (encDs ds)] ∧ Book c ds ∧ o = .ret (dl (nI (paidUp c ds))) M
def f_paid_up : TS := (sDPut (tVar 3) (tVar 4) (tC (.bl true)))
def u_paid_up (K : PySem.W.Frag) : TS := (tIfS (tAnd (tB (tDIn (tVar 4) (tVar 3))) (tNot (tB (tCB (rAny K) (tCons (tLc (iList K (tVar 1)) (gName 6) tYes (tAndV (tOp rEq (tOp (rIx K) (tVar 6) (tC (.int 0))) (tVar 4)) (tDIn (tOp (rIx K) (tVar 6) (tC (.int 1))) (tVar 3))) [6]) tNil))))) (tSeq (tDrop (tDPop1 (tVar 3) (tVar 4)))
    (tSeq (tDrop (tBM K "list" rAppend (tVar 2) (tCons (tVar 4) tNil)))
    (tAsg (tC (.bl true)) (gName 5)))) tNext)
def t_paid_up (K : PySem.W.Frag) : TS := (tSeq (tAsg (tLst tNil) (gName 2))
    (tSeq (tAsg tDNewK (gName 3))
    (tSeq (tFor (iRng1 (tCons (tVar 0) tNil)) (gName 4) f_paid_up)
    (tSeq (tAsg (tC (.bl true)) (gName 5))
    (tSeq (tWhile (tB (tVar 5)) (tSeq (tAsg (tC (.bl false)) (gName 5))
    (tFor (iRng1 (tCons (tVar 0) tNil)) (gName 4) (u_paid_up K))))
    (tRet (tVar 2)))))))
theorem there_fill {c D : W} {a5 a6 : Sl} : ∀ (n k : Nat) (a4 : Sl), k + n ≤ 20 →
    ForL K E (gName 4) f_paid_up ((List.range' k n).map natW) [some c, some D, some (.cel (M.length + 0)), some (.cel (M.length + 1)), a4, a5, a6] (M ++ [.lst [], .dic (thereL (List.range k))])
      (.nx [some c, some D, some (.cel (M.length + 0)), some (.cel (M.length + 1)), none, a5, a6] (M ++ [.lst [], .dic (thereL (List.range (k + n)))]))
  | 0, k, a4, _ => ⟨_, .cons (.inr rfl) (.cons (.inr rfl) (.cons (.inr rfl) (.cons (.inr rfl) (.cons (.inl rfl) (.cons (.inr rfl) (.cons (.inr rfl) .nil)))))), rfl⟩
  | n + 1, k, a4, hk => by
    refine ⟨_, .name (.dputL (k := 1) (i := (k : Int)) (w := db true) .bl (.var rfl) (.var rfl) rfl ?_), ?_⟩
    · rw [there_len, List.length_range]
      omega
    · show ForL _ _ _ _ _ _ (M ++ [.lst [], .dic (putW (thereL (List.range k)) (.inl (k : Int)) (db true))]) _
      rw [there_put (by simp), ← List.range_succ, show k + (n + 1) = k + 1 + n by omega]
      exact there_fill n (k + 1) _ (by omega)
def puL (c : Nat) (g : List Nat) : List Cell := [.lst (g.map natW), .dic (thereL (there c g))]
theorem puStep_sub {ds : List Dt} {c : Nat} {st : List Nat × Bool} {h : Nat} (hg : ∀ x ∈ st.1, x < c) (hc : h < c) : ∀ x ∈ (puStep ds st h).1, x < c := by
  unfold puStep
  split
  · intro x hx
    rcases List.mem_append.mp hx with hx | hx
    · exact hg x hx
    · rw [List.mem_singleton.mp hx]
      exact hc
  · exact hg
theorem pu_loop {c : Nat} {ds : List Dt} (hb : ∀ d ∈ ds, d.a < c ∧ d.b < c) (h20 : c ≤ 20) (hds : ds.length ≤ 60) : ∀ (l : List Nat) (st : List Nat × Bool) (a4 a6 : Sl), (∀ h ∈ l, h < c) → PuOk ds c st.1 →
    ForL K E (gName 4) (u_paid_up K) (l.map natW) [some (di c), some (dl (encDs ds)), some (.cel (M.length + 0)), some (.cel (M.length + 1)), a4, some (db st.2), a6] (M ++ puL c st.1)
      (.nx [some (di c), some (dl (encDs ds)), some (.cel (M.length + 0)), some (.cel (M.length + 1)), none, some (db (l.foldl (puStep ds) st).2), none] (M ++ puL c (l.foldl (puStep ds) st).1))
  | [], st, a4, a6, _, _ => ⟨_, .cons (.inr rfl) (.cons (.inr rfl) (.cons (.inr rfl) (.cons (.inr rfl) (.cons (.inl rfl) (.cons (.inr rfl) (.cons (.inl rfl) .nil)))))), rfl⟩
  | h :: r, st, a4, a6, hl, hg => by
    have hh := hl h List.mem_cons_self
    have ih := fun b4 b6 => pu_loop hb h20 hds r (puStep ds st h) b4 b6 (fun x hx => hl x (List.mem_cons_of_mem _ hx)) (hg.step hh)
    have ht : EvB K (tAnd (tB (tDIn (tVar 4) (tVar 3))) (tNot (tB (tCB (rAny K) (tCons (tLc (iList K (tVar 1)) (gName 6) tYes (tAndV (tOp rEq (tOp (rIx K) (tVar 6) (tC (.int 0))) (tVar 4)) (tDIn (tOp (rIx K) (tVar 6) (tC (.int 1))) (tVar 3))) [6]) tNil)))))
        [some (di c), some (dl (encDs ds)), some (.cel (M.length + 0)), some (.cel (M.length + 1)), some (natW h), some (db st.2), a6] (M ++ puL c st.1) (!decide (h ∈ st.1) && !hasOut ds st.1 h) (M ++ puL c st.1) := by
      refine .and (.val (.is (.din (a := M.length + 1) (i := (h : Int)) (.var rfl) (.var rfl) (getL rfl)) ?_)) fun _ => .not (.val (.is (.any (bs := ds.map fun d => decide (d.a = h) && !decide (d.b ∈ st.1)) ?_) ?_))
      · rw [there_is]
        congr 2
        rw [Bool.eq_iff_iff, decide_eq_true_eq, there_mem]
        simp [hh]
      · rw [List.map_map]
        refine .lcL1 (enc := fun d => .dat (encD d)) (f := fun d => .bool (decide (d.a = h) && !decide (d.b ∈ st.1))) (.var rfl) lst_enc (by omega) fun d hd => .and (b := decide (d.a = h)) (.is (.eq (.ixG (.var rfl) .int (.tup rfl)) (.var rfl) (.int _ _)) ?_) fun _ => .is (.din (a := M.length + 1) (i := (d.b : Int)) (.ixG (.var rfl) .int (.tup rfl)) (.var rfl) (getL rfl)) ?_
        · exact dbd (by omega)
        · rw [there_is]
          congr 2
          rw [Bool.eq_iff_iff, decide_eq_true_eq, there_mem]
          simp [(hb d hd).2]
      · unfold hasOut
        rw [List.any_map]
        rfl
    rw [List.foldl_cons]
    by_cases q : (!decide (h ∈ st.1) && !hasOut ds st.1 h) = true
    · have e : puStep ds st h = (st.1 ++ [h], true) := by unfold puStep; rw [if_pos q]
      have hm : h ∉ st.1 := by
        rw [Bool.and_eq_true, Bool.not_eq_true', decide_eq_false_iff_not] at q
        exact q.1
      rw [e] at ih ⊢
      refine ⟨_, .name (.ite ht (fun _ => .seq (.dpopL (k := 1) (i := (h : Int)) (w := db true) (.var rfl) (.var rfl) rfl (there_val (there_mem.mpr ⟨hh, hm⟩))) (.seq (.appendL (k := 0) (w := natW h) (.var rfl) (.var rfl) rfl ?_) (.asg .bl))) fun z => absurd (q.symm.trans z) (by decide)), ?_⟩
      · rw [List.length_map]
        have := nodup_le hg.nd hg.lt
        omega
      · show ForL _ _ _ _ _ _ (M ++ [.lst (st.1.map natW ++ [natW h]), .dic (dropW (thereL (there c st.1)) (.inl (h : Int)))]) _
        rw [there_drop, there_snoc]
        have := ih (some (natW h)) a6
        unfold puL at this ⊢
        rw [List.map_append] at this
        exact this
    · have e : puStep ds st h = st := by unfold puStep; rw [if_neg q]
      have q' : (!decide (h ∈ st.1) && !hasOut ds st.1 h) = false := by simpa using q
      rw [e] at ih ⊢
      exact ⟨_, .name (.ite ht (fun z => absurd z q) fun _ => .next), ih _ _⟩
theorem pu_whl {c : Nat} {ds : List Dt} (hb : ∀ d ∈ ds, d.a < c ∧ d.b < c) (h20 : c ≤ 20) (hds : ds.length ≤ 60) : ∀ (n : Nat) (g : List Nat) (a4 a6 : Sl), PuOk ds c g → c < n + g.length →
    WhL K E (tB (tVar 5)) (tSeq (tAsg (tC (.bl false)) (gName 5)) (tFor (iRng1 (tCons (tVar 0) tNil)) (gName 4) (u_paid_up K))) (n + 1) [some (di c), some (dl (encDs ds)), some (.cel (M.length + 0)), some (.cel (M.length + 1)), a4, some (db true), a6] (M ++ puL c g)
      (.nx [some (di c), some (dl (encDs ds)), some (.cel (M.length + 0)), some (.cel (M.length + 1)), none, some (db false), none] (M ++ puL c (puGo ds c n g)))
  | 0, g, a4, a6, k, hn => by
    have := nodup_le k.nd k.lt
    omega
  | n + 1, g, a4, a6, k, hn => by
    obtain ⟨a1, a2, _, _⟩ := pu_fold (c := c) (List.range c) (g, false) (fun h hh => List.mem_range.mp hh) k
    refine .inr ⟨M ++ puL c g, .nx [some (di c), some (dl (encDs ds)), some (.cel (M.length + 0)), some (.cel (M.length + 1)), none, some (db (puPass ds c g).2), none] (M ++ puL c (puPass ds c g).1), .val (.var rfl), .seq (.asg .bl) (.forR (n := (c : Int)) (ea_cons (.var rfl) ea_nil) (by omega) (by omega) ?_), ?_⟩
    · have := pu_loop (K := K) (E := E) (M := M) hb h20 hds (List.range c) (g, false) a4 a6 (fun h hh => List.mem_range.mp hh) k
      exact this
    · unfold puGo
      cases e : (puPass ds c g).2 with
      | true =>
        rw [if_pos rfl]
        have hlt : g.length < (puPass ds c g).1.length := (a2 e).resolve_left (fun z => nomatch z)
        exact pu_whl hb h20 hds n _ _ _ a1 (by omega)
      | false =>
        rw [if_neg Bool.false_ne_true]
        exact .inl ⟨_, .val (.var rfl), _, Sub.refl _, rfl⟩
theorem big_paid_up (h : T_paid_up M ws o) : BigF K E (t_paid_up K) (args 7 ws) M o := by
  obtain ⟨c, ds, rfl, B, rfl⟩ := h
  have h20 := B.hi
  have hlo := B.lo
  refine .dat (N0 := [.dead, .dic (thereL (there c (paidUp c ds)))]) (.seq (s1 := [some (di c), some (dl (encDs ds)), some (.cel (M.length + 0)), none, none, none, none]) (M1 := M ++ [.lst []]) (.asg (.lstC ea_nil (by decide)))
    (.seq (s1 := [some (di c), some (dl (encDs ds)), some (.cel (M.length + 0)), some (.cel (M.length + 1)), none, none, none]) (M1 := M ++ [.lst [], .dic []]) (.newL .dicC)
    (.seq (s1 := [some (di c), some (dl (encDs ds)), some (.cel (M.length + 0)), some (.cel (M.length + 1)), none, none, none]) (M1 := M ++ puL c []) (.forR (n := (c : Int)) (ea_cons (.var rfl) ea_nil) (by omega) (by omega) ?_)
    (.seq (.asg .bl) (.seq (.whl (n := c + 2) (pu_whl B.ab h20 B.len (c + 1) [] none none (PuOk.nil ds c) (by simp))) (.ret (.frzL (k := 0) (.var rfl) ?_)))))))
  · have q := there_fill (K := K) (E := E) (M := M) (c := di c) (D := dl (encDs ds)) (a5 := none) (a6 := none) c 0 none (by omega)
    rw [← List.range_eq_range', Nat.zero_add] at q
    have e : there c [] = List.range c := by
      unfold there
      rw [List.filter_eq_self]
      intro x _
      simp
    unfold puL
    rw [e]
    exact q
  · show some (Cell.lst ((puGo ds c (c + 1) []).map natW)) = _
    rw [nI_dat] <;> rfl
def T_order (M : List Cell) (ws : List W) (o : Res) : Prop := ∃ (c : Nat) (ds : List Dt), ws = [di c, dl (encDs ds)] ∧ Book c ds ∧ o = .ret (if (paidUp c ds).length < c then dn else dl (nI (paidUp c ds).reverse)) M
def t_order (K : PySem.W.Frag) : TS := (tSeq (tAsg (tCall (spOf K T_paid_up) [] E0 (tCons (tVar 0) (tCons (tVar 1) tNil))) (gName 2))
    (tSeq (tIfS (tTest (tOp xLt (tCB (rLenX K) (tCons (tVar 2) tNil)) (tVar 0))) (tRet (tC .non)) tNext)
    (tRet (tList_reversed K (tVar 2)))))
theorem big_order (h : T_order M ws o) : BigF K E (t_order K) (args 3 ws) M o := by
  obtain ⟨c, ds, rfl, B, rfl⟩ := h
  refine .rt (.st (w := dl (nI (paidUp c ds))) (.call (ea_cons (.var rfl) (ea_cons (.var rfl) ea_nil)) ⟨c, ds, rfl, B, rfl⟩) (.retIf (b := decide (((paidUp c ds).length : Int) < c)) (.test (.lt (.lenG (.var rfl) .map) (.var rfl))) (fun q => ?_) (fun q => ?_) ⟨_, _, rfl⟩))
  · have q := of_decide_eq_true q
    rw [if_pos (by omega)]
    exact .ret .non
  · have q := of_decide_eq_false q
    rw [if_neg (by omega)]
    refine .ret (.is (.listRev (.var rfl)) ?_)
    show dl (List.map _ _).reverse = _
    rw [← List.map_reverse]
end
end Bk

set_option Elab.async false
set_option linter.all false
set_option maxRecDepth 100000
set_option maxHeartbeats 4000000
/-! C10: days -/
namespace Bk
open PySem L2 Vx
/-- what is known of the class Day -/
structure DayK (K : PySem.W.Frag) (C : Addr) : Prop where
  c : Cls K C
  h : NoAttr K C "houses"
  ca : NoAttr K C "came"
  re : NoAttr K C "rests"
def dayFs (c : Nat) (j1 j2 : Nat) : List (Str × W) := [("houses", di c), ("came", .cel j1), ("rests", .cel j2)]
/-- a day's cells -/
structure DayC (C : Addr) (M : List Cell) (j j1 j2 c : Nat) (ds : List Dt) (rs : List Int) : Prop where
  d : M[j]? = some (.ins C (dayFs c j1 j2))
  c1 : M[j1]? = some (.lst ((encDs ds).map .dat))
  c2 : M[j2]? = some (.lst (rs.map di))
  len : rs.length = ds.length
  lim : ds.length ≤ 500
  c0 : 1 ≤ c
  cl : c ≤ 20
  ok : ∀ d ∈ ds, DtOk c d
  lo : ∀ n, n < ds.length → 0 ≤ rs.getD n 0 ∧ rs.getD n 0 ≤ 1000000000
/-- which numbers stand -/
def stN (ds : List Dt) (rs : List Int) : List Nat := (List.range ds.length).filter fun n => decide (0 < rs.getD n 0)
def stP (ds : List Dt) (rs : List Int) (n : Nat) : PyData := .tuple [.int (n : Int), .int (dA ds n), .int (dB ds n), .int (rs.getD n 0)]
def stF (ds : List Dt) (rs : List Int) : List PyData := (stN ds rs).map (stP ds rs)
def stD (ds : List Dt) (rs : List Int) : List Dt := (stN ds rs).map fun n => ⟨dA ds n, dB ds n, rs.getD n 0⟩
section
variable {K : PySem.W.Frag} {E : XK} {M M1 M2 : List Cell} {s : List Sl} {ws : List W} {o : Res} {X : Xs} {ta tb te : TE} {C : Addr} {j j1 j2 c n : Nat} {ds : List Dt} {rs : List Int}
theorem DayC.app {L : List Cell} (h : DayC C M j j1 j2 c ds rs) : DayC C (M ++ L) j j1 j2 c ds rs := by
  have up : ∀ {i : Nat} {x : Cell}, M[i]? = some x → (M ++ L)[i]? = some x := fun {i x} e => by
    rw [List.getElem?_append_left (List.getElem?_eq_some_iff.mp e).1]
    exact e
  exact ⟨up h.d, up h.c1, up h.c2, h.len, h.lim, h.c0, h.cl, h.ok, h.lo⟩
theorem day_h (k : DayK K C) (D : DayC C M j j1 j2 c ds rs) (h : Ev K te s M (.cel j) M) : Ev K (tFld K te "houses") s M (di c) M := .fld k.c k.h h D.d rfl
theorem day_c (k : DayK K C) (D : DayC C M j j1 j2 c ds rs) (h : Ev K te s M (.cel j) M) : Ev K (tFld K te "came") s M (.cel j1) M := .fld k.c k.ca h D.d rfl
theorem day_r (k : DayK K C) (D : DayC C M j j1 j2 c ds rs) (h : Ev K te s M (.cel j) M) : Ev K (tFld K te "rests") s M (.cel j2) M := .fld k.c k.re h D.d rfl
theorem day_n (k : DayK K C) (D : DayC C M j j1 j2 c ds rs) (h : Ev K te s M (.cel j) M) : Ev K (tCB (rLenX K) (tCons (tFld K te "came") tNil)) s M (di (ds.length : Int)) M := .is (.lenG (day_c k D h) (.lst (.cel D.c1))) (by rw [List.length_map, List.length_map])
theorem day_ri (k : DayK K C) (D : DayC C M j j1 j2 c ds rs) (h : Ev K te s M (.cel j) M) (hn : Ev K ta s M (natW n) M) (hl : n < ds.length) : Ev K (tOp (rIx K) (tFld K te "rests") ta) s M (di (rs.getD n 0)) M := .ixG (day_r k D h) hn (.lst (.cel D.c2) (atI_map (atI_nat (getD_some (by rw [D.len]; exact hl)))))
theorem day_ci (k : DayK K C) (D : DayC C M j j1 j2 c ds rs) (h : Ev K te s M (.cel j) M) (hn : Ev K ta s M (natW n) M) (hl : n < ds.length) : Ev K (tOp (rIx K) (tFld K te "came") ta) s M (.dat (encD (ds.getD n d0))) M := by
  refine .ixG (day_c k D h) hn (.lst (.cel D.c1) ?_)
  rw [List.map_map]
  exact atI_map (f := W.dat ∘ encD) (at_nat hl)
theorem not_wh {d : PyData} {lo hi : Int} {b : Bool} (h : Ev K ta s M (.dat d) M) (h1 : Ev K tb s M (di lo) M) (h2 : Ev K te s M (di hi) M) (e : wh lo hi d = b) : EvB K (tNot (tB (tCall (spOf K T_within) [] E0 (tCons ta (tCons tb (tCons te tNil)))))) s M (!b) M :=
  .not (.val (.is (.call (ea_cons h (ea_cons h1 (ea_cons h2 ea_nil))) ⟨_, _, _, rfl, rfl⟩) (by rw [e])))
theorem _root_.Vx.BigF.noneK {t : TS} {s1 : List Sl} (h : Big K E t s M (.nx s1 M1)) : BigF K E t s M (.ret dn M1) := fun G al σ H Q k r q => h G al σ H _ k r fun σ' G' al' H' k' l' r' => q .non G' al' H' k' l' Dq.non
theorem _root_.Vx.BigF.rz {t : TS} {c : Value} (h : Big K E t s M (.rz c M1)) : BigF K E t s M (.rz c M1) := fun G al σ H Q k r q => h G al σ H _ k r q
/-! ### a new day -/
def T_Day_init (X : Xs) (M : List Cell) (ws : List W) (o : Res) : Prop := ∃ (j : Nat) (d : PyData), ws = [.cel j, .dat d] ∧ M[j]? = some (.ins X.Day []) ∧
  ((∃ c : Nat, 1 ≤ c ∧ c ≤ 20 ∧ d = .int (c : Int) ∧ o = .ret dn ((M ++ [Cell.lst [], Cell.lst []]).set j (.ins X.Day (dayFs c M.length (M.length + 1))))) ∨ (wh 1 20 d = false ∧ o = .rz (.ref X.BadCount) M))
def t_Day_init (K : PySem.W.Frag) (E : XK) (X : Xs) : TS := (tSeq (tDrop (tCall (spOf K (T_need_count X)) [] E (tCons (tVar 1) tNil)))
    (tSeq (sFld K (tVar 0) (tVar 1) "houses")
    (tSeq (sFld K (tVar 0) (tLst tNil) "came")
    (sFld K (tVar 0) (tLst tNil) "rests"))))
theorem set_set' {α : Type} {l : List α} {i : Nat} {x y : α} : (l.set i x).set i y = l.set i y := by
  apply List.ext_getElem?
  intro n
  rw [List.getElem?_set, List.getElem?_set, List.getElem?_set, List.length_set]
  split <;> rfl
theorem set_app {α : Type} {l m : List α} {i : Nat} {x : α} (h : i < l.length) : l.set i x ++ m = (l ++ m).set i x := by
  rw [List.set_append_left _ _ h]
theorem get_set {α : Type} {l : List α} {i : Nat} {x : α} (h : i < l.length) : (l.set i x)[i]? = some x := by
  rw [List.getElem?_set, if_pos rfl, if_pos h]
theorem big_Day_init (k : DayK K X.Day) (h : T_Day_init X M ws o) : BigF K E (t_Day_init K E X) (args 2 ws) M o := by
  obtain ⟨j, d, rfl, hj, ⟨c, h1, h2, rfl, rfl⟩ | ⟨hw, rfl⟩⟩ := h
  · have hlt := (List.getElem?_eq_some_iff.mp hj).1
    have e1 : (M.set j (.ins X.Day [("houses", di c)]) ++ [Cell.lst []]).length = M.length + 1 := by
      rw [List.length_append, List.length_set] <;> rfl
    refine .noneK (s1 := args 2 [.cel j, di c]) (.seq (s1 := args 2 [.cel j, di c]) (M1 := M) (.drop (w := dn) (.call (ea_cons (.var rfl) ea_nil) ⟨_, rfl, ?_⟩)) (.seq (s1 := args 2 [.cel j, di c]) (M1 := M.set j (.ins X.Day [("houses", di c)])) (.setFld k.c k.h (.var rfl) (.var rfl) hj (by decide))
      (.seq (s1 := args 2 [.cel j, di c]) (M1 := (M.set j (.ins X.Day [("houses", di c)]) ++ [Cell.lst []]).set j (.ins X.Day [("houses", di c), ("came", .cel M.length)])) (.is (.setFld (j := j) (fs := [("houses", di c)]) k.c k.ca (.lstC ea_nil (by decide)) (.var rfl) ?_ (by show (1 : Nat) < 1000; omega)) ?_) (.is (.setFld (j := j) (fs := [("houses", di c), ("came", .cel M.length)]) k.c k.re (.lstC ea_nil (by decide)) (.var rfl) ?_ (by show (2 : Nat) < 1000; omega)) ?_))))
    · have e : wh 1 20 (.int (c : Int)) = true := by
        show (decide (1 ≤ (c : Int)) && decide ((c : Int) ≤ 20)) = true
        rw [decide_eq_true (by omega), decide_eq_true (by omega)] <;> rfl
      rw [if_pos e]
    · rw [set_app hlt]
      exact get_set (by rw [List.length_append]; omega)
    · rw [List.length_set] <;> rfl
    · rw [List.getElem?_append_left (by rw [List.length_set, e1]; omega)]
      exact get_set (by rw [e1]; omega)
    · rw [List.length_set, e1, set_app hlt, set_set', set_app (by rw [List.length_append]; omega), set_set', List.append_assoc] <;> rfl
  · refine .rz (.seqZ (.callZ (ea_cons (.var rfl) ea_nil) ⟨_, rfl, ?_⟩))
    rw [hw] <;> rfl
/-! ### a debt comes -/
def T_Day_owe (X : Xs) (M : List Cell) (ws : List W) (o : Res) : Prop := ∃ (j j1 j2 c : Nat) (ds : List Dt) (rs : List Int) (a b m : PyData), ws = [.cel j, .dat a, .dat b, .dat m] ∧ DayC X.Day M j j1 j2 c ds rs ∧ j1 ≠ j2 ∧ j ≠ j1 ∧ ds.length < 500 ∧
  ((∃ d : Dt, DtOk c d ∧ encD d = .tuple [a, b, m] ∧ o = .ret (di (ds.length : Int)) ((M.set j1 (.lst ((encDs (ds ++ [d])).map .dat))).set j2 (.lst ((rs ++ [d.m]).map di)))) ∨ (isDebt c (.tuple [a, b, m]) = false ∧ o = .rz (.ref X.BadDebt) M))
def t_Day_owe (K : PySem.W.Frag) (E : XK) (X : Xs) : TS := (tSeq (tAsg (tTup (tCons (tVar 1) (tCons (tVar 2) (tCons (tVar 3) tNil)))) (gName 4))
    (tSeq (tIfS (tNot (tB (tCall (spOf K T_is_debt) [] E0 (tCons (tFld K (tVar 0) "houses") (tCons (tVar 4) tNil))))) (tRz E X.BadDebt) tNext)
    (tSeq (tDrop (tBM K "list" rAppend (tFld K (tVar 0) "came") (tCons (tVar 4) tNil)))
    (tSeq (tDrop (tBM K "list" rAppend (tFld K (tVar 0) "rests") (tCons (tVar 3) tNil)))
    (tRet (tOp xSub (tCB (rLenX K) (tCons (tFld K (tVar 0) "came") tNil)) (tC (.int 1))))))))
theorem get_ne {α : Type} {l : List α} {i n : Nat} {x : α} (h : i ≠ n) : (l.set i x)[n]? = l[n]? := by
  rw [List.getElem?_set, if_neg h]
theorem big_Day_owe (k : DayK K X.Day) (h : T_Day_owe X M ws o) : BigF K E (t_Day_owe K E X) (args 5 ws) M o := by
  obtain ⟨j, j1, j2, c, ds, rs, a, b, m, rfl, D, n12, nj1, hl, h⟩ := h
  have tst : ∀ {q : Bool}, isDebt c (.tuple [a, b, m]) = q → EvB K (tNot (tB (tCall (spOf K T_is_debt) [] E0 (tCons (tFld K (tVar 0) "houses") (tCons (tVar 4) tNil))))) [some (.cel j), some (.dat a), some (.dat b), some (.dat m), some (dt [a, b, m])] M (!q) M := fun {q} e =>
    .not (.val (.is (.call (ea_cons (day_h k D (.var rfl)) (ea_cons (.var rfl) ea_nil)) ⟨_, _, rfl, rfl⟩) (by rw [e])))
  have pre : ∀ {o : Out}, Big K E (tSeq (tIfS (tNot (tB (tCall (spOf K T_is_debt) [] E0 (tCons (tFld K (tVar 0) "houses") (tCons (tVar 4) tNil))))) (tRz E X.BadDebt) tNext)
    (tSeq (tDrop (tBM K "list" rAppend (tFld K (tVar 0) "came") (tCons (tVar 4) tNil)))
    (tSeq (tDrop (tBM K "list" rAppend (tFld K (tVar 0) "rests") (tCons (tVar 3) tNil)))
    (tRet (tOp xSub (tCB (rLenX K) (tCons (tFld K (tVar 0) "came") tNil)) (tC (.int 1))))))) [some (.cel j), some (.dat a), some (.dat b), some (.dat m), some (dt [a, b, m])] M o → Big K E (t_Day_owe K E X) (args 5 [.cel j, .dat a, .dat b, .dat m]) M o := fun q =>
    .st (w := dt [a, b, m]) (.tup (ed_cons (.var rfl) (ed_cons (.var rfl) (ed_cons (.var rfl) ea_nil))) (Nat.le_of_ble_eq_true rfl)) q
  rcases h with ⟨d, ok, e, rfl⟩ | ⟨e, rfl⟩
  · have hd : isDebt c (.tuple [a, b, m]) = true := by
      rw [← e]
      exact isDebt_ok ok
    have em : m = .int d.m := by
      unfold encD at e
      injection e with e
      injection e with _ e
      injection e with _ e
      injection e with e _
      exact e.symm
    have l1 := (List.getElem?_eq_some_iff.mp D.c1).1
    have l2 := (List.getElem?_eq_some_iff.mp D.c2).1
    have cj2 : (M.set j1 (.lst ((encDs (ds ++ [d])).map .dat)))[j2]? = some (.lst (rs.map di)) := by
      rw [get_ne n12]
      exact D.c2
    have cj : (M.set j1 (.lst ((encDs (ds ++ [d])).map .dat)))[j]? = some (.ins X.Day (dayFs c j1 j2)) := by
      rw [get_ne nj1.symm]
      exact D.d
    have nj2 : j2 ≠ j := fun z => by
      have h1 := D.c2
      rw [z, D.d] at h1
      cases h1
    refine .rt (pre (.seqIte (tst hd) (fun z => nomatch z) fun _ => .seqN (.seq (s1 := [some (.cel j), some (.dat a), some (.dat b), some (.dat m), some (dt [a, b, m])]) (M1 := M.set j1 (.lst ((encDs (ds ++ [d])).map .dat))) (.is (.append (day_c k D (.var rfl)) (.var rfl) ⟨_, D.c1⟩ D.c1 ?_) ?_) (.seq (s1 := [some (.cel j), some (.dat a), some (.dat b), some (.dat m), some (dt [a, b, m])]) (M1 := (M.set j1 (.lst ((encDs (ds ++ [d])).map .dat))).set j2 (.lst ((rs ++ [d.m]).map di))) (.is (.append (.fld k.c k.re (.var rfl) cj rfl) (.var rfl) ⟨_, cj2⟩ cj2 ?_) ?_) (.ret (.is (.sub (.lenG (.fld k.c k.ca (.var rfl) (fs := dayFs c j1 j2) (j := j) ?_ rfl) (.lst (.cel (j := j1) (ws := (encDs (ds ++ [d])).map .dat) ?_))) .int) ?_))))))
    · rw [List.length_map, List.length_map]
      omega
    · have e2 : (encDs (ds ++ [d])).map W.dat = (encDs ds).map W.dat ++ [dt [a, b, m]] := by
        unfold encDs
        rw [List.map_append, List.map_append]
        show _ ++ [W.dat (encD d)] = _
        rw [e]
      rw [e2]
    · rw [List.length_map, D.len]
      omega
    · rw [em, List.map_append] <;> rfl
    · rw [get_ne nj2]
      exact cj
    · rw [get_ne n12.symm]
      exact get_set l1
    · rw [List.length_map, List.length_map, List.length_append, List.length_singleton]
      show di _ = di _
      congr 1
      omega
  · exact .rz (pre (.seqIte (tst e) (fun _ => .seqZ .rz) fun z => nomatch z))
/-! ### what is left, what is paid -/
def T_Day_rest (X : Xs) (M : List Cell) (ws : List W) (o : Res) : Prop := ∃ (j j1 j2 c : Nat) (ds : List Dt) (rs : List Int) (d : PyData), ws = [.cel j, .dat d] ∧ DayC X.Day M j j1 j2 c ds rs ∧
  ((∃ n : Nat, n < ds.length ∧ d = .int (n : Int) ∧ o = .ret (di (rs.getD n 0)) M) ∨ (wh 0 ((ds.length : Int) - 1) d = false ∧ o = .rz (.ref X.NoDebt) M))
def t_Day_rest (K : PySem.W.Frag) (E : XK) (X : Xs) : TS := (tSeq (tIfS (tNot (tB (tCall (spOf K T_within) [] E0 (tCons (tVar 1) (tCons (tC (.int 0)) (tCons (tOp xSub (tCB (rLenX K) (tCons (tFld K (tVar 0) "came") tNil)) (tC (.int 1))) tNil)))))) (tRz E X.NoDebt) tNext)
    (tRet (tOp (rIx K) (tFld K (tVar 0) "rests") (tVar 1))))
theorem wh_nat {n : Nat} {hi : Int} (h : (n : Int) ≤ hi) : wh 0 hi (.int (n : Int)) = true := by
  show (decide ((0 : Int) ≤ n) && decide ((n : Int) ≤ hi)) = true
  rw [decide_eq_true (by omega), decide_eq_true h] <;> rfl
theorem big_Day_rest (k : DayK K X.Day) (h : T_Day_rest X M ws o) : BigF K E (t_Day_rest K E X) (args 2 ws) M o := by
  obtain ⟨j, j1, j2, c, ds, rs, d, rfl, D, h⟩ := h
  have tst : ∀ {q : Bool}, wh 0 ((ds.length : Int) - 1) d = q → EvB K (tNot (tB (tCall (spOf K T_within) [] E0 (tCons (tVar 1) (tCons (tC (.int 0)) (tCons (tOp xSub (tCB (rLenX K) (tCons (tFld K (tVar 0) "came") tNil)) (tC (.int 1))) tNil)))))) (args 2 [.cel j, .dat d]) M (!q) M := fun {q} e =>
    not_wh (.var rfl) .int (.sub (day_n k D (.var rfl)) .int) e
  rcases h with ⟨n, hn, rfl, rfl⟩ | ⟨e, rfl⟩
  · exact .rt (.seqIte (tst (wh_nat (by omega))) (fun z => nomatch z) fun _ => .seqN (.ret (day_ri k D (.var rfl) (.var rfl) hn)))
  · exact .rz (.seqIte (tst e) (fun _ => .seqZ .rz) fun z => nomatch z)
def T_Day_pay (X : Xs) (M : List Cell) (ws : List W) (o : Res) : Prop := ∃ (j j1 j2 c : Nat) (ds : List Dt) (rs : List Int) (d e : PyData), ws = [.cel j, .dat d, .dat e] ∧ DayC X.Day M j j1 j2 c ds rs ∧
  ((∃ (n : Nat) (v : Int), n < ds.length ∧ d = .int (n : Int) ∧ e = .int v ∧ 1 ≤ v ∧ v ≤ rs.getD n 0 ∧ o = .ret (di (rs.getD n 0 - v)) (M.set j2 (.lst ((rs.set n (rs.getD n 0 - v)).map di)))) ∨ (wh 0 ((ds.length : Int) - 1) d = false ∧ o = .rz (.ref X.NoDebt) M) ∨
  ∃ n : Nat, n < ds.length ∧ d = .int (n : Int) ∧ wh 1 (rs.getD n 0) e = false ∧ o = .rz (.ref X.BadAmount) M)
def t_Day_pay (K : PySem.W.Frag) (E : XK) (X : Xs) : TS := (tSeq (tAsg (tMeth X.Day "rest" (spOf K (T_Day_rest X)) [] E (tVar 0) (tCons (tVar 1) tNil)) (gName 3))
    (tSeq (tIfS (tNot (tB (tCall (spOf K T_within) [] E0 (tCons (tVar 2) (tCons (tC (.int 1)) (tCons (tVar 3) tNil)))))) (tRz E X.BadAmount) tNext)
    (tSeq (tAsg (tOp xSub (tVar 3) (tVar 2)) (gSub (tFld K (tVar 0) "rests") (tVar 1) rSetL))
    (tRet (tOp (rIx K) (tFld K (tVar 0) "rests") (tVar 1))))))
theorem big_Day_pay (k : DayK K X.Day) (h : T_Day_pay X M ws o) : BigF K E (t_Day_pay K E X) (args 4 ws) M o := by
  obtain ⟨j, j1, j2, c, ds, rs, d, e, rfl, D, h⟩ := h
  have l2 := (List.getElem?_eq_some_iff.mp D.c2).1
  have hlen := D.len
  have nj2 : j2 ≠ j := fun z => by
    have h1 := D.c2
    rw [z, D.d] at h1
    cases h1
  rcases h with ⟨n, v, hn, rfl, rfl, v1, v2, rfl⟩ | ⟨hd, rfl⟩ | ⟨n, hn, rfl, he, rfl⟩
  · have e1 : wh 1 (rs.getD n 0) (.int v) = true := by
      show (decide ((1 : Int) ≤ v) && decide (v ≤ rs.getD n 0)) = true
      rw [decide_eq_true v1, decide_eq_true v2] <;> rfl
    have cj : (M.set j2 (.lst ((rs.set n (rs.getD n 0 - v)).map di)))[j]? = some (.ins X.Day (dayFs c j1 j2)) := by
      rw [get_ne nj2]
      exact D.d
    refine .rt (.st (w := di (rs.getD n 0)) (.meth (ws := [di (n : Int)]) (.var rfl) D.d rfl (ea_cons (.var rfl) ea_nil) ⟨j, j1, j2, c, ds, rs, _, rfl, D, .inl ⟨n, hn, rfl, rfl⟩⟩) (.seqIte (not_wh (.var rfl) .int (.var rfl) e1) (fun z => nomatch z) fun _ => .seqN (.seq (s1 := [some (.cel j), some (natW n), some (di v), some (di (rs.getD n 0))]) (M1 := M.set j2 (.lst ((rs.set n (rs.getD n 0 - v)).map di))) (.is (.setItem (.sub (.var rfl) (.var rfl)) (day_r k D (.var rfl)) (.var rfl) D.c2 (n := n) ?_) ?_) (.ret (.ixG (.fld k.c k.re (.var rfl) cj rfl) (.var rfl) (.lst (.cel (ws := (rs.set n (rs.getD n 0 - v)).map di) (get_set l2)) (atI_map (atI_nat ?_))))))))
    · rw [List.length_map]
      exact ixN_nat (by omega)
    · rw [set_map_di] <;> rfl
    · rw [List.getElem?_set, if_pos rfl, if_pos (by omega)]
  · exact .rz (.seqZ (.asgZ (.meth (ws := [.dat d]) (.var rfl) D.d rfl (ea_cons (.var rfl) ea_nil) ⟨j, j1, j2, c, ds, rs, _, rfl, D, .inr ⟨hd, rfl⟩⟩)))
  · exact .rz (.st (w := di (rs.getD n 0)) (.meth (ws := [di (n : Int)]) (.var rfl) D.d rfl (ea_cons (.var rfl) ea_nil) ⟨j, j1, j2, c, ds, rs, _, rfl, D, .inl ⟨n, hn, rfl, rfl⟩⟩) (.seqIte (not_wh (.var rfl) .int (.var rfl) he) (fun _ => .seqZ .rz) fun z => nomatch z))
/-! ### what stands -/
def T_Day_standing (X : Xs) (M : List Cell) (ws : List W) (o : Res) : Prop := ∃ (j j1 j2 c : Nat) (ds : List Dt) (rs : List Int), ws = [.cel j] ∧ DayC X.Day M j j1 j2 c ds rs ∧ (o = .ret (dl (stF ds rs)) M ∨ o = .ret (.cel M.length) (M ++ [Cell.lst ((stF ds rs).map .dat)]))
def u_Day_standing (K : PySem.W.Frag) : TS := (tIfS (tTest (tOp xGt (tOp (rIx K) (tFld K (tVar 0) "rests") (tVar 2)) (tC (.int 0)))) (tDrop (tBM K "list" rAppend (tVar 1) (tCons (tTup (tCons (tVar 2) (tCons (tOp (rIx K) (tOp (rIx K) (tFld K (tVar 0) "came") (tVar 2)) (tC (.int 0))) (tCons (tOp (rIx K) (tOp (rIx K) (tFld K (tVar 0) "came") (tVar 2)) (tC (.int 1))) (tCons (tOp (rIx K) (tFld K (tVar 0) "rests") (tVar 2)) tNil))))) tNil))) tNext)
def t_Day_standing (K : PySem.W.Frag) : TS := (tSeq (tAsg (tLst tNil) (gName 1))
    (tSeq (tFor (iRng1 (tCons (tCB (rLenX K) (tCons (tFld K (tVar 0) "came") tNil)) tNil)) (gName 2) (u_Day_standing K))
    (tRet (tVar 1))))
theorem stand_loop (k : DayK K C) (D : DayC C M j j1 j2 c ds rs) : ∀ (l acc : List Nat) (a2 : Sl), (∀ n ∈ l, n < ds.length) → acc.length + l.length ≤ 2000 →
    ForL K E (gName 2) (u_Day_standing K) (l.map natW) [some (.cel j), some (.cel (M.length + 0)), a2] (M ++ [Cell.lst ((acc.map (stP ds rs)).map .dat)])
      (.nx [some (.cel j), some (.cel (M.length + 0)), none] (M ++ [Cell.lst (((acc ++ l.filter fun n => decide (0 < rs.getD n 0)).map (stP ds rs)).map .dat)]))
  | [], acc, a2, _, _ => ⟨_, .cons (.inr rfl) (.cons (.inr rfl) (.cons (.inl rfl) .nil)), by rw [List.filter_nil, List.append_nil]⟩
  | n :: l, acc, a2, h, hacc => by
    have hn := h n List.mem_cons_self
    rw [List.length_cons] at hacc
    have ih := fun acc ha => stand_loop k D l acc (some (natW n)) (fun m hm => h m (List.mem_cons_of_mem _ hm)) ha
    have D' := D.app (L := [Cell.lst ((acc.map (stP ds rs)).map .dat)])
    have ht : EvB K (tTest (tOp xGt (tOp (rIx K) (tFld K (tVar 0) "rests") (tVar 2)) (tC (.int 0)))) [some (.cel j), some (.cel (M.length + 0)), some (natW n)] (M ++ [Cell.lst ((acc.map (stP ds rs)).map .dat)]) (decide (0 < rs.getD n 0)) (M ++ [Cell.lst ((acc.map (stP ds rs)).map .dat)]) := .test (.gt (day_ri k D' (.var rfl) (.var rfl) hn) .int)
    by_cases q : 0 < rs.getD n 0
    · rw [List.filter_cons_of_pos (by rw [decide_eq_true q])]
      have i := ih (acc ++ [n]) (by rw [List.length_append, List.length_singleton]; omega)
      rw [List.append_assoc] at i
      have b : Big K E (tDrop (tBM K "list" rAppend (tVar 1) (tCons (tTup (tCons (tVar 2) (tCons (tOp (rIx K) (tOp (rIx K) (tFld K (tVar 0) "came") (tVar 2)) (tC (.int 0))) (tCons (tOp (rIx K) (tOp (rIx K) (tFld K (tVar 0) "came") (tVar 2)) (tC (.int 1))) (tCons (tOp (rIx K) (tFld K (tVar 0) "rests") (tVar 2)) tNil))))) tNil))) [some (.cel j), some (.cel (M.length + 0)), some (natW n)] (M ++ [Cell.lst ((acc.map (stP ds rs)).map .dat)])
          (.nx [some (.cel j), some (.cel (M.length + 0)), some (natW n)] (M ++ [Cell.lst (((acc ++ [n]).map (stP ds rs)).map .dat)])) := by
        rw [List.map_append, List.map_append]
        exact .appendL (k := 0) (w := .dat (stP ds rs n)) (.var rfl) (.tup (ed_cons (.var rfl) (ed_cons (.ixG (w1 := di (dA ds n)) (day_ci k D' (.var rfl) (.var rfl) hn) .int (.tup rfl)) (ed_cons (.ixG (w1 := di (dB ds n)) (day_ci k D' (.var rfl) (.var rfl) hn) .int (.tup rfl)) (ed_cons (day_ri k D' (.var rfl) (.var rfl) hn) ea_nil)))) (Nat.le_of_ble_eq_true rfl)) rfl (by rw [List.length_map, List.length_map]; omega)
      exact ⟨_, .name (.ite ht (fun _ => b) fun z => absurd q (of_decide_eq_false z)), i⟩
    · rw [List.filter_cons_of_neg (by rw [decide_eq_false q]; exact Bool.false_ne_true)]
      exact ⟨_, .name (.ite ht (fun z => absurd (of_decide_eq_true z) q) fun _ => .next), ih acc (by omega)⟩
theorem big_Day_standing (k : DayK K X.Day) (h : T_Day_standing X M ws o) : BigF K E (t_Day_standing K) (args 3 ws) M o := by
  obtain ⟨j, j1, j2, c, ds, rs, rfl, D, h⟩ := h
  have hl := D.lim
  have lp := stand_loop (E := E) k D (List.range ds.length) [] none (fun n hn => List.mem_range.mp hn) (by rw [List.length_range, List.length_nil]; omega)
  rw [List.nil_append] at lp
  have lp : ForL K E (gName 2) (u_Day_standing K) ((List.range ds.length).map natW) [some (.cel j), some (.cel (M.length + 0)), none] (M ++ [Cell.lst ((([] : List Nat).map (stP ds rs)).map .dat)]) (.nx [some (.cel j), some (.cel (M.length + 0)), none] (M ++ [Cell.lst ((stF ds rs).map .dat)])) := lp
  have go : ∀ {o : Out}, Big K E (tRet (tVar 1)) [some (.cel j), some (.cel (M.length + 0)), none] (M ++ [Cell.lst ((stF ds rs).map .dat)]) o → Big K E (t_Day_standing K) (args 3 [.cel j]) M o := fun q =>
    .seq (s1 := [some (.cel j), some (.cel (M.length + 0)), none]) (M1 := M ++ [Cell.lst ((([] : List Nat).map (stP ds rs)).map .dat)]) (.asg (.lstC ea_nil (Nat.le_of_ble_eq_true rfl))) (.seq (.forR (n := (ds.length : Int)) (ea_cons (day_n k D.app (.var rfl)) ea_nil) (by omega) (by omega) lp) q)
  rcases h with rfl | rfl
  · exact .dat (N0 := [.dead]) (go (.ret (.frzL (k := 0) (.var rfl) rfl)))
  · exact .rt (go (.ret (.var rfl)))
/-! ### a house's balance -/
def T_Day_balance (X : Xs) (M : List Cell) (ws : List W) (o : Res) : Prop := ∃ (j j1 j2 c : Nat) (ds : List Dt) (rs : List Int) (d : PyData), ws = [.cel j, .dat d] ∧ DayC X.Day M j j1 j2 c ds rs ∧
  ((∃ h : Nat, h < c ∧ d = .int (h : Int) ∧ o = .ret (di ((bal c (stD ds rs)).getD h 0)) M) ∨ (wh 0 ((c : Int) - 1) d = false ∧ o = .rz (.ref X.NoHouse) M))
def t_Day_balance (K : PySem.W.Frag) (E : XK) (X : Xs) : TS := (tSeq (tIfS (tNot (tB (tCall (spOf K T_within) [] E0 (tCons (tVar 1) (tCons (tC (.int 0)) (tCons (tOp xSub (tFld K (tVar 0) "houses") (tC (.int 1))) tNil)))))) (tRz E X.NoHouse) tNext)
    (tRet (tOp (rIx K) (tCall (spOf K T_balances) [] E0 (tCons (tFld K (tVar 0) "houses") (tCons (tLc (iList K (tMeth X.Day "standing" (spOf K (T_Day_standing X)) [] E0 (tVar 0) tNil)) (gName 2) tYes (tSl (rSlT K) (tVar 2) (tPart (tC (.int 1))) tNoPart) [2]) tNil))) (tVar 1))))
theorem stD_ab (D : DayC C M j j1 j2 c ds rs) : ∀ d ∈ stD ds rs, d.a < c ∧ d.b < c := by
  intro d hd
  obtain ⟨n, hn, rfl⟩ := List.mem_map.mp hd
  have q := D.ok _ (getD_mem (List.mem_range.mp (List.mem_filter.mp hn).1))
  exact ⟨q.a, q.b⟩
/-- what stands, without the numbers -/
theorem rows_of (D : DayC X.Day M j j1 j2 c ds rs) {s : List Sl} {i n : Nat} (hi : s[i]? = some (some (.cel j))) (hn : n < s.length) : Ev K (tLc (iList K (tMeth X.Day "standing" (spOf K (T_Day_standing X)) [] E0 (tVar i) tNil)) (gName n) tYes (tSl (rSlT K) (tVar n) (tPart (tC (.int 1))) tNoPart) [n]) s M (dl (encDs (stD ds rs))) M := by
  have hlen : (stN ds rs).length ≤ ds.length := Nat.le_trans (List.length_filter_le _ _) (by rw [List.length_range]; exact Nat.le_refl _)
  have hl := D.lim
  have q := Ev.lcL1 (K := K) (M := M) (s := s) (tl := tMeth X.Day "standing" (spOf K (T_Day_standing X)) [] E0 (tVar i) tNil) (te := tSl (rSlT K) (tVar n) (tPart (tC (.int 1))) tNoPart) (n := n) (w := dl (stF ds rs)) (xs := stN ds rs) (enc := fun n => .dat (stP ds rs n)) (f := fun n => encD ⟨dA ds n, dB ds n, rs.getD n 0⟩)
    (.meth (ws := []) (.var hi) D.d rfl ea_nil ⟨j, j1, j2, c, ds, rs, rfl, D, .inl rfl⟩) (by
      have e : (stN ds rs).map (fun n => W.dat (stP ds rs n)) = (stF ds rs).map .dat := by
        unfold stF
        rw [List.map_map] <;> rfl
      rw [e]
      exact .dat _) (by omega) fun m hm => .is (.slT (ds := [.int (m : Int), .int (dA ds m), .int (dB ds m), .int (rs.getD m 0)]) (.var (by rw [List.getElem?_set_self hn] <;> rfl)) (eo_some .int) eo_none (by show ¬ (HT.sIx 4 0 (some 1) = 0 ∧ HT.sIx 4 4 none = 4); decide)) rfl
  refine .is q ?_
  unfold stD encDs
  rw [List.map_map] <;> rfl
theorem big_Day_balance (k : DayK K X.Day) (h : T_Day_balance X M ws o) : BigF K E (t_Day_balance K E X) (args 3 ws) M o := by
  obtain ⟨j, j1, j2, c, ds, rs, d, rfl, D, h⟩ := h
  have hc := D.cl
  have tst : ∀ {q : Bool}, wh 0 ((c : Int) - 1) d = q → EvB K (tNot (tB (tCall (spOf K T_within) [] E0 (tCons (tVar 1) (tCons (tC (.int 0)) (tCons (tOp xSub (tFld K (tVar 0) "houses") (tC (.int 1))) tNil)))))) (args 3 [.cel j, .dat d]) M (!q) M := fun {q} e =>
    not_wh (.var rfl) .int (.sub (day_h k D (.var rfl)) .int) e
  rcases h with ⟨h, hh, rfl, rfl⟩ | ⟨e, rfl⟩
  · refine .rt (.seqIte (tst (wh_nat (by omega))) (fun z => nomatch z) fun _ => .seqN (.ret (.ixG (w := dl ((bal c (stD ds rs)).map .int)) (.call (ea_cons (day_h k D (.var rfl)) (ea_cons (rows_of D rfl (by show (2 : Nat) < 3; omega)) ea_nil)) ⟨c, stD ds rs, rfl, by omega, stD_ab D, rfl⟩) (.var rfl) (.map (atI_nat (getD_some (by rw [bal_len]; exact hh)))))))
  · exact .rz (.seqIte (tst e) (fun _ => .seqZ .rz) fun z => nomatch z)
end
end Bk

set_option Elab.async false
set_option linter.all false
set_option maxRecDepth 100000
set_option maxHeartbeats 4000000
/-! L02: law k02: refusals of a count and of a list -/
namespace Bk
open PySem L2 Vx HotP
local macro_rules | `(tactic| walk_at "ev") => `(tactic| repeat' first
  | exact Ev.var rfl | exact Ev.int | exact Ev.bl | exact Ev.str | exact Ev.non | exact ea_nil
  | apply Ev.add | apply Ev.sub | apply Ev.lt | apply Ev.le | apply Ev.gt | apply Ev.ge
  | apply Ev.mul | apply Ev.mod | apply Ev.div | apply Ev.pow | apply Ev.neg
  | apply Ev.ixG | apply Ev.eq | apply Ev.ne | apply Ev.lenG | apply ed_cons
  | apply ea_cons | apply Ev.tup | apply Ev.lst | apply EvB.val | apply EvB.test | apply EvB.not
  | apply Ev.isT | apply Ev.not | exact Nat.le_of_ble_eq_true rfl | exact EqOf.int _ _ | exact EqOf.bl _ _ | exact EqOf.str _ _
  | exact IxOf.tup rfl | exact LenOf.map | exact LenOf.dl | exact LenOf.tup _ | exact LstOf.dat _ | exact LstOf.scr _ | exact LstOf.cel rfl | exact LstOf.cel (getL rfl))
/-! the things that are none -/
def badC (x : Int) : PyData := [.int 0, .int (-1 - x / 9 % 1000000007), .int 21, .int (21 + x / 9 % 1000000007), .bool true, .str "5", .none, .bool false, .list [.int 5]].getD (x % 9).toNat .none
theorem mem_getD_of {α : Type} {l : List α} {n : Nat} {d : α} (h : n < l.length) : l.getD n d ∈ l := by
  rw [List.getD_eq_getElem?_getD, List.getElem?_eq_getElem h]
  exact List.getElem_mem h
theorem atI_getD {α : Type} {l : List α} {i : Int} {d : α} (h0 : 0 ≤ i) (h1 : i < l.length) : atI l i = some (l.getD i.toNat d) := by
  have e : i = ((i.toNat : Nat) : Int) := by omega
  rw [e]
  exact at_nat' (by omega)
where at_nat' {α : Type} {l : List α} {n : Nat} {d : α} (h : n < l.length) : atI l (n : Int) = some (l.getD n d) := atI_nat (by rw [List.getD_eq_getElem?_getD, List.getElem?_eq_getElem h] <;> rfl)
theorem badC_no (x : Int) : wh 1 20 (badC x) = false := by
  have h : ∀ d ∈ [PyData.int 0, .int (-1 - x / 9 % 1000000007), .int 21, .int (21 + x / 9 % 1000000007), .bool true, .str "5", .none, .bool false, .list [.int 5]], wh 1 20 d = false := by
    intro d hd
    simp only [List.mem_cons, List.not_mem_nil, or_false] at hd
    rcases hd with rfl | rfl | rfl | rfl | rfl | rfl | rfl | rfl | rfl <;> first | rfl | (show (decide _ && decide _) = false; simp; omega)
  exact h _ (mem_getD_of (by show _ < 9; omega))
def odd1 (d : Dt) (c : Nat) (f : Int) : List PyData := [.list [.int d.a, .int d.b, .int d.m], .tuple [.int d.a, .int d.b], .tuple [.int d.a, .int d.b, .int d.m, .int 1], .tuple [.int (-1 - f), .int d.b, .int d.m], .tuple [.int d.a, .int (c + f), .int d.m]]
def odd2 (d : Dt) (c : Nat) (f : Int) : List PyData := [.tuple [.int d.a, .int c, .int d.m], .tuple [.int d.a, .int d.a, .int d.m], .tuple [.int d.a, .int d.b, .int 0], .tuple [.int d.a, .int d.b, .int (-f)], .tuple [.int d.a, .int d.b, .int (1000000001 + f)]]
def odd3 (d : Dt) : List PyData := [.tuple [.bool true, .int d.b, .int d.m]]
def odd4 (d : Dt) : List PyData := [.tuple [.int d.a, .str "1", .int d.m], .tuple [.int d.a, .int d.b, .bool true], .tuple [.int d.a, .int d.b, .none], .none, .tuple [.int d.a, .none, .int d.m], .tuple [.int d.a, .int (-1), .int d.m]]
def odd5 (d : Dt) : List PyData := [.tuple [.bool false, .int d.b, .int d.m], .tuple [.int d.a, .bool false, .int d.m]]
def odds (d : Dt) (c : Nat) (f : Int) : List PyData := odd1 d c f ++ odd2 d c f ++ odd3 d ++ odd4 d ++ odd5 d
def badD (d : Dt) (c : Nat) (x : Int) : PyData := (odds d c (x / 19 % 1000000007)).getD (x % 19).toNat .none
theorem whI {lo hi i : Int} : wh lo hi (.int i) = (decide (lo ≤ i) && decide (i ≤ hi)) := rfl
theorem dec_f {p q : Prop} [Decidable p] [Decidable q] (h : ¬ (p ∧ q)) : (decide p && decide q) = false := by
  by_cases hp : p
  · have hq : ¬ q := fun z => h ⟨hp, z⟩
    rw [decide_eq_false hq, Bool.and_false]
  · rw [decide_eq_false hp, Bool.false_and]
theorem lay1 : PyData.canLay0 (.str "1") = true := by decide +kernel
theorem isD3 {c : Int} {x y z : PyData} : isDebt c (.tuple [x, y, z]) = ((wh 0 (c - 1) x && wh 0 (c - 1) y) && ((!sameI x y) && wh 1 1000000000 z)) := rfl
theorem odds_no {d : Dt} {c : Nat} {f : Int} (hf : 0 ≤ f) : ∀ e ∈ odds d c f, isDebt c e = false ∧ pB 2 e = true := by
  intro e he
  unfold odds at he
  rcases List.mem_append.mp he with he | he
  rcases List.mem_append.mp he with he | he
  rcases List.mem_append.mp he with he | he
  rcases List.mem_append.mp he with he | he
  · unfold odd1 at he
    simp only [List.mem_cons, List.not_mem_nil, or_false] at he
    rcases he with rfl | rfl | rfl | rfl | rfl
    · exact ⟨rfl, rfl⟩
    · exact ⟨rfl, rfl⟩
    · exact ⟨rfl, rfl⟩
    · exact ⟨by rw [isD3, whI, dec_f (by omega)] <;> rfl, rfl⟩
    · exact ⟨by rw [isD3, whI, whI, dec_f (p := (0 : Int) ≤ c + f) (by omega), Bool.and_false] <;> rfl, rfl⟩
  · unfold odd2 at he
    simp only [List.mem_cons, List.not_mem_nil, or_false] at he
    rcases he with rfl | rfl | rfl | rfl | rfl
    · exact ⟨by rw [isD3, whI, whI, dec_f (p := (0 : Int) ≤ c) (by omega), Bool.and_false] <;> rfl, rfl⟩
    · refine ⟨?_, rfl⟩
      rw [isD3]
      show (_ && (!decide ((d.a : Int) = d.a) && _)) = false
      rw [decide_eq_true rfl]
      simp
    · exact ⟨by rw [isD3]; simp [wh], rfl⟩
    · exact ⟨by rw [isD3, @whI 1 1000000000, dec_f (p := (1 : Int) ≤ -f) (by omega), Bool.and_false, Bool.and_false], rfl⟩
    · exact ⟨by rw [isD3, @whI 1 1000000000, dec_f (p := (1 : Int) ≤ 1000000001 + f) (by omega), Bool.and_false, Bool.and_false], rfl⟩
  · unfold odd3 at he
    simp only [List.mem_cons, List.not_mem_nil, or_false] at he
    subst he
    exact ⟨rfl, rfl⟩
  · unfold odd4 at he
    simp only [List.mem_cons, List.not_mem_nil, or_false] at he
    rcases he with rfl | rfl | rfl | rfl | rfl | rfl
    · exact ⟨by rw [isD3, show wh 0 ((c : Int) - 1) (.str "1") = false from rfl, Bool.and_false] <;> rfl, by simp [pB, lay1]⟩
    · exact ⟨by rw [isD3, show wh 1 1000000000 (.bool true) = false from rfl, Bool.and_false, Bool.and_false], rfl⟩
    · exact ⟨by rw [isD3, show wh 1 1000000000 .none = false from rfl, Bool.and_false, Bool.and_false], rfl⟩
    · exact ⟨rfl, rfl⟩
    · exact ⟨by rw [isD3, show wh 0 ((c : Int) - 1) .none = false from rfl, Bool.and_false] <;> rfl, rfl⟩
    · exact ⟨by rw [isD3, @whI 0 _ (-1), dec_f (p := (0 : Int) ≤ -1) (by omega), Bool.and_false] <;> rfl, rfl⟩
  · unfold odd5 at he
    simp only [List.mem_cons, List.not_mem_nil, or_false] at he
    rcases he with rfl | rfl
    · exact ⟨rfl, rfl⟩
    · exact ⟨by rw [isD3, show wh 0 ((c : Int) - 1) (.bool false) = false from rfl, Bool.and_false] <;> rfl, rfl⟩
theorem badD_no (d : Dt) (c : Nat) (x : Int) : isDebt c (badD d c x) = false ∧ pB 2 (badD d c x) = true :=
  odds_no (f := x / 19 % 1000000007) (by omega) _ (mem_getD_of (by show _ < 19; omega))
section
variable {K : PySem.W.Frag} {E : XK} {M : List Cell} {ws : List W} {o : Res} {X : Xs}
def T_qbad_count (M : List Cell) (ws : List W) (o : Res) : Prop := ∃ x : Int, ws = [di x] ∧ o = .ret (.dat (badC x)) M
def t_qbad_count (K : PySem.W.Frag) : TS := (tSeq (tAsg (tOp xMod (tOp xDiv (tVar 0) (tC (.int 9))) (tC (.int 1000000007))) (gName 1))
    (tRet (tOp (rIx K) (tLst (tCons (tC (.int 0)) (tCons (tOp xSub (tUn xNeg (tC (.int 1))) (tVar 1)) (tCons (tC (.int 21)) (tCons (tOp xAdd (tC (.int 21)) (tVar 1)) (tCons (tC (.bl true)) (tCons (tC (.str "5")) (tCons (tC .non) (tCons (tC (.bl false)) (tCons (tLst (tCons (tC (.int 5)) tNil)) tNil)))))))))) (tOp xMod (tVar 0) (tC (.int 9))))))
theorem big_qbad_count (h : T_qbad_count M ws o) : BigF K E (t_qbad_count K) (args 2 ws) M o := by
  obtain ⟨x, rfl, rfl⟩ := h
  refine .rt (.st (w := di (x / 9 % 1000000007)) (.mod (.div (.var rfl) .int (by decide)) .int (by decide)) (.ret (.ixG (w := dl [.int 0, .int (-1 - x / 9 % 1000000007), .int 21, .int (21 + x / 9 % 1000000007), .bool true, .str "5", .none, .bool false, .list [.int 5]]) (i := x % 9) ?_ (.mod (.var rfl) .int (by decide)) (.dat (atI_getD (by omega) (by show _ < (9 : Int); omega))))))
  walk_at "ev"
def T_qbad_debt (M : List Cell) (ws : List W) (o : Res) : Prop := ∃ (d : Dt) (c : Nat) (x : Int), ws = [.dat (encD d), di c, di x] ∧ o = .ret (.dat (badD d c x)) M
def t_qbad_debt (K : PySem.W.Frag) : TS := (tSeq (tAsg (tVar 0) (gTup K 3 (gCons (gName 3) (gCons (gName 4) (gCons (gName 5) gNil)))))
    (tSeq (tAsg (tOp xMod (tOp xDiv (tVar 2) (tC (.int 19))) (tC (.int 1000000007))) (gName 6))
    (tSeq (tAsg (tLst (tCons (tLst (tCons (tVar 3) (tCons (tVar 4) (tCons (tVar 5) tNil)))) (tCons (tTup (tCons (tVar 3) (tCons (tVar 4) tNil))) (tCons (tTup (tCons (tVar 3) (tCons (tVar 4) (tCons (tVar 5) (tCons (tC (.int 1)) tNil))))) (tCons (tTup (tCons (tOp xSub (tUn xNeg (tC (.int 1))) (tVar 6)) (tCons (tVar 4) (tCons (tVar 5) tNil)))) (tCons (tTup (tCons (tVar 3) (tCons (tOp xAdd (tVar 1) (tVar 6)) (tCons (tVar 5) tNil)))) tNil)))))) (gName 7))
    (tSeq (tAsg (tOp rCat (tVar 7) (tLst (tCons (tTup (tCons (tVar 3) (tCons (tVar 1) (tCons (tVar 5) tNil)))) (tCons (tTup (tCons (tVar 3) (tCons (tVar 3) (tCons (tVar 5) tNil)))) (tCons (tTup (tCons (tVar 3) (tCons (tVar 4) (tCons (tC (.int 0)) tNil)))) (tCons (tTup (tCons (tVar 3) (tCons (tVar 4) (tCons (tUn xNeg (tVar 6)) tNil)))) (tCons (tTup (tCons (tVar 3) (tCons (tVar 4) (tCons (tOp xAdd (tC (.int 1000000001)) (tVar 6)) tNil)))) tNil))))))) (gName 7))
    (tSeq (tAsg (tOp rCat (tVar 7) (tLst (tCons (tTup (tCons (tC (.bl true)) (tCons (tVar 4) (tCons (tVar 5) tNil)))) tNil))) (gName 7))
    (tSeq (tAsg (tOp rCat (tVar 7) (tLst (tCons (tTup (tCons (tVar 3) (tCons (tC (.str "1")) (tCons (tVar 5) tNil)))) (tCons (tTup (tCons (tVar 3) (tCons (tVar 4) (tCons (tC (.bl true)) tNil)))) (tCons (tTup (tCons (tVar 3) (tCons (tVar 4) (tCons (tC .non) tNil)))) (tCons (tC .non) (tCons (tTup (tCons (tVar 3) (tCons (tC .non) (tCons (tVar 5) tNil)))) (tCons (tTup (tCons (tVar 3) (tCons (tUn xNeg (tC (.int 1))) (tCons (tVar 5) tNil)))) tNil)))))))) (gName 7))
    (tSeq (tAsg (tOp rCat (tVar 7) (tLst (tCons (tTup (tCons (tC (.bl false)) (tCons (tVar 4) (tCons (tVar 5) tNil)))) (tCons (tTup (tCons (tVar 3) (tCons (tC (.bl false)) (tCons (tVar 5) tNil)))) tNil)))) (gName 7))
    (tRet (tOp (rIx K) (tVar 7) (tOp xMod (tVar 2) (tC (.int 19))))))))))))
theorem big_qbad_debt (h : T_qbad_debt M ws o) : BigF K E (t_qbad_debt K) (args 8 ws) M o := by
  obtain ⟨d, c, x, rfl, rfl⟩ := h
  refine .rt (.seq (.unpack3 (x := .int d.a) (y := .int d.b) (z := .int d.m) (.var rfl)) (.st (w := di (x / 19 % 1000000007)) (.mod (.div (.var rfl) .int (by decide)) .int (by decide))
    (.st (w := dl (odd1 d c (x / 19 % 1000000007))) ?_ (.st (w := dl (odd1 d c (x / 19 % 1000000007) ++ odd2 d c (x / 19 % 1000000007))) (.cat (.var rfl) ?_ (by show 5 + 5 ≤ 1000; omega)) (.st (w := dl (odd1 d c (x / 19 % 1000000007) ++ odd2 d c (x / 19 % 1000000007) ++ odd3 d)) (.cat (.var rfl) ?_ (by show 10 + 1 ≤ 1000; omega))
    (.st (w := dl (odd1 d c (x / 19 % 1000000007) ++ odd2 d c (x / 19 % 1000000007) ++ odd3 d ++ odd4 d)) (.cat (.var rfl) ?_ (by show 11 + 6 ≤ 1000; omega)) (.st (w := dl (odds d c (x / 19 % 1000000007))) (.cat (.var rfl) ?_ (by show 17 + 2 ≤ 1000; omega))
    (.ret (.ixG (i := x % 19) (.var rfl) (.mod (.var rfl) .int (by decide)) (.dat (ds := odds d c (x / 19 % 1000000007)) (atI_getD (by omega) (by show _ < (19 : Int); omega))))))))))))
  all_goals walk_at "ev"
/-- what checked answers, told in a word -/
def T_qrefused2 (X : Xs) (M : List Cell) (ws : List W) (o : Res) : Prop := ∃ a b, ws = [a, b] ∧ ((T_checked X M ws (.rz (.ref X.BadCount) M) ∧ o = .ret (ds_ "count") M) ∨ (T_checked X M ws (.rz (.ref X.BadDebt) M) ∧ o = .ret (ds_ "debt") M) ∨ (∃ w N, T_checked X M ws (.ret w (M ++ N)) ∧ o = .ret (ds_ "taken") M))
def t_qrefused2 (K : PySem.W.Frag) (X : Xs) : TS := (tSeq (tTry K X.DebtError 2 (fun a cls d => (tRet (tCall (spS K (T_qkind K X) a cls d) [] E0 (tCons (tVar 2) tNil)))) (fun W => (tDrop (tCallS (spOf K (T_checked X)) (WE W) (tCons (tVar 0) (tCons (tVar 1) tNil))))))
    (tRet (tC (.str "taken"))))
theorem big_qrefused2 (k0 : KitOk K X X.BadCount 0) (k1 : KitOk K X X.BadDebt 1) (h : T_qrefused2 X M ws o) : BigF K E (t_qrefused2 K X) (args 3 ws) M o := by
  obtain ⟨a, b, rfl, ⟨h, rfl⟩ | ⟨h, rfl⟩ | ⟨w, N, h, rfl⟩⟩ := h
  · exact .rt (.seqR (.tryD_er (o := .rt (ds_ "count") M) (ea_cons (.var rfl) (ea_cons (.var rfl) ea_nil)) h k0.d fun e => .ret (.callS (ea_cons (.var rfl) ea_nil) ⟨0, by decide, k0, rfl, rfl⟩)))
  · exact .rt (.seqR (.tryD_er (o := .rt (ds_ "debt") M) (ea_cons (.var rfl) (ea_cons (.var rfl) ea_nil)) h k1.d fun e => .ret (.callS (ea_cons (.var rfl) ea_nil) ⟨1, by decide, k1, rfl, rfl⟩)))
  · exact .dat (N0 := N) (.seq (.tryD_ok (ea_cons (.var rfl) (ea_cons (.var rfl) ea_nil)) h) (.ret .str))
end
end Bk

set_option Elab.async false
set_option linter.all false
set_option maxRecDepth 100000
set_option maxHeartbeats 4000000
/-! D04: walked, ring; the law k04's own helpers -/
namespace Bk
open PySem L2 Vx RevL
local macro_rules | `(tactic| walk_at "ev") => `(tactic| repeat' first
  | exact Ev.var rfl | exact Ev.int | exact Ev.bl | exact Ev.str | exact Ev.non | exact ea_nil
  | apply Ev.add | apply Ev.sub | apply Ev.lt | apply Ev.le | apply Ev.gt | apply Ev.ge
  | apply Ev.mul | apply Ev.mod | apply Ev.div | apply Ev.pow
  | apply Ev.ixG | apply Ev.eq | apply Ev.ne | apply Ev.lenG | apply ed_cons
  | apply ea_cons | apply Ev.tup | apply EvB.val | apply EvB.test | apply EvB.not
  | apply Ev.isT | apply Ev.not | exact Nat.le_of_ble_eq_true rfl | exact EqOf.int _ _ | exact EqOf.bl _ _ | exact EqOf.str _ _
  | exact IxOf.tup rfl | exact LenOf.map | exact LenOf.dl | exact LenOf.tup _ | exact LstOf.dat _ | exact LstOf.scr _ | exact LstOf.cel rfl | exact LstOf.cel (getL rfl))
theorem cutW_drop {α : Type} {xs : List α} {k : Nat} (h : k ≤ xs.length) : cutW xs (some (k : Int)) none = xs.drop k := by
  unfold cutW
  rw [HT.sIx_nat, HT.sIx_none, Nat.min_eq_left h, ← List.length_drop, List.take_length]
section
variable {K : PySem.W.Frag} {E : XK} {M M1 M2 : List Cell} {s : List Sl} {ws : List W} {o : Res} {ta tb : TE}
theorem lst_nI {M : List Cell} {l : List Nat} : LstOf M (dl (nI l)) (l.map natW) := by
  have q := LstOf.dat (M := M) (nI l)
  rw [nI_dat] at q
  exact q
/-- debts[n][i] -/
theorem _root_.Vx.Ev.debtA {ds : List Dt} {n : Nat} (ha : Ev K ta s M (dl (encDs ds)) M1) (hb : Ev K tb s M1 (natW n) M2) (hn : n < ds.length) : Ev K (tOp (rIx K) (tOp (rIx K) ta tb) (tC (.int 0))) s M (di (dA ds n)) M2 :=
  .ixG (.ixG ha hb (.map (x := ds.getD n d0) (at_nat hn))) .int (.tup rfl)
theorem _root_.Vx.Ev.debtB {ds : List Dt} {n : Nat} (ha : Ev K ta s M (dl (encDs ds)) M1) (hb : Ev K tb s M1 (natW n) M2) (hn : n < ds.length) : Ev K (tOp (rIx K) (tOp (rIx K) ta tb) (tC (.int 1))) s M (di (dB ds n)) M2 :=
  .ixG (.ixG ha hb (.map (x := ds.getD n d0) (at_nat hn))) .int (.tup rfl)
theorem _root_.Vx.Ev.debtM {ds : List Dt} {n : Nat} (ha : Ev K ta s M (dl (encDs ds)) M1) (hb : Ev K tb s M1 (natW n) M2) (hn : n < ds.length) : Ev K (tOp (rIx K) (tOp (rIx K) ta tb) (tC (.int 2))) s M (di (dM ds n)) M2 :=
  .ixG (.ixG ha hb (.map (x := ds.getD n d0) (at_nat hn))) .int (.tup rfl)
/-- ns[k] -/
theorem _root_.Vx.Ev.numI {ns : List Nat} {k : Nat} {i : Int} (ha : Ev K ta s M (dl (nI ns)) M1) (hb : Ev K tb s M1 (di i) M2) (hi : i = (k : Int)) (hk : k < ns.length) : Ev K (tOp (rIx K) ta tb) s M (natW (ns.getD k 0)) M2 :=
  .ixG ha hb (.map (f := fun n : Nat => PyData.int (n : Int)) (x := ns.getD k 0) (by rw [hi]; exact at_nat hk))

def T_walked (M : List Cell) (ws : List W) (o : Res) : Prop := ∃ (c : Nat) (ds : List Dt) (nums : List Nat) (h : Nat), ws = [dl (encDs ds), dl (nI nums), di h] ∧ c ≤ 20 ∧ nums.length ≤ 1000 ∧ Nums c ds nums ∧ (∃ n ∈ nums, dA ds n = h) ∧ o = .ret (dl (nI (walkR ds nums h))) M
def u_walked (K : PySem.W.Frag) : TS := (tSeq (sDPut (tVar 3) (tVar 2) (tCB (rLenX K) (tCons (tVar 4) tNil)))
    (tSeq (tAsg (tOp (rIx K) (tLc (iList K (tVar 1)) (gName 6) (tTest (tOp rEq (tOp (rIx K) (tOp (rIx K) (tVar 0) (tVar 6)) (tC (.int 0))) (tVar 2))) (tVar 6) [6]) (tC (.int 0))) (gName 5))
    (tSeq (tDrop (tBM K "list" rAppend (tVar 4) (tCons (tVar 5) tNil)))
    (tAsg (tOp (rIx K) (tOp (rIx K) (tVar 0) (tVar 5)) (tC (.int 1))) (gName 2)))))
def t_walked (K : PySem.W.Frag) : TS := (tSeq (tAsg tDNewK (gName 3))
    (tSeq (tAsg (tLst tNil) (gName 4))
    (tSeq (tWhile (tB (tDNotIn (tVar 2) (tVar 3))) (u_walked K))
    (tRet (tSl (rSlL K) (tVar 4) (tPart (tDGet (tVar 3) (tVar 2))) tNoPart)))))
def waL (ds : List Dt) (way : List Nat) : List Cell := [.dic (seenL (way.map (dA ds))), .lst (way.map natW)]
theorem walk_loop {c : Nat} {ds : List Dt} {nums : List Nat} (N : Nums c ds nums) (hc : c ≤ 20) (hl : nums.length ≤ 1000) : ∀ (n : Nat) (way : List Nat) (h : Nat) (a5 : Sl), WayOk c ds nums way h → c < n + way.length →
    WhL K E (tB (tDNotIn (tVar 2) (tVar 3))) (u_walked K) n [some (dl (encDs ds)), some (dl (nI nums)), some (di h), some (.cel (M.length + 0)), some (.cel (M.length + 1)), a5, none] (M ++ waL ds way)
      (.nx [some (dl (encDs ds)), some (dl (nI nums)), some (di (walkEnd ds nums n way h).2), some (.cel (M.length + 0)), some (.cel (M.length + 1)), none, none] (M ++ waL ds (walkEnd ds nums n way h).1))
  | 0, way, h, a5, w, hn => by
    have h1 := nodup_le (c := c) w.nd fun x hx => by
      obtain ⟨n, hn, rfl⟩ := List.mem_map.mp hx
      exact N.a n (w.mem n hn)
    rw [List.length_map] at h1
    omega
  | n + 1, way, h, a5, w, hn => by
    have hlen := nodup_le (c := c) w.nd fun x hx => by
      obtain ⟨n, hn, rfl⟩ := List.mem_map.mp hx
      exact N.a n (w.mem n hn)
    rw [List.length_map] at hlen
    unfold walkEnd
    by_cases e : h ∈ way.map (dA ds)
    · rw [if_pos e]
      refine .inl ⟨M ++ waL ds way, .is (.val (.dnotin (a := M.length + 0) (i := (h : Int)) (.var rfl) (.var rfl) (getL rfl))) ?_, _, .cons (.inr rfl) (.cons (.inr rfl) (.cons (.inr rfl) (.cons (.inr rfl) (.cons (.inr rfl) (.cons (.inl rfl) (.cons (.inr rfl) .nil)))))), rfl⟩
      obtain ⟨i, hi⟩ := List.getElem?_of_mem e
      rw [seen_some w.nd hi] <;> rfl
    · rw [if_neg e]
      obtain ⟨o1, o2, o3⟩ := outOf_ok w.ou
      have hlt := N.lt _ o1
      refine .inr ⟨M ++ waL ds way, .nx [some (dl (encDs ds)), some (dl (nI nums)), some (di (dB ds (outOf ds nums h))), some (.cel (M.length + 0)), some (.cel (M.length + 1)), some (natW (outOf ds nums h)), none] (M ++ waL ds (way ++ [outOf ds nums h])), .is (.val (.dnotin (a := M.length + 0) (i := (h : Int)) (.var rfl) (.var rfl) (getL rfl))) ?_, ?_, ?_⟩
      · rw [seen_none e] <;> rfl
      · refine .is (.seq (.dputL (k := 0) (i := (h : Int)) (w := natW (way.map (dA ds)).length) (.is (.lenG (.var rfl) (.lst (.cel (getL rfl)))) ?_) (.var rfl) (.var rfl) rfl ?_) (.st (w := natW (outOf ds nums h)) (.ixG (.lcL (xs := nums) (enc := natW) (p := fun n => decide (dA ds n = h)) (f := fun n => .int (n : Int)) (.var rfl) lst_nI (by omega) (fun n hn => .test (.is (.eq (.debtA (.var rfl) (.var rfl) (N.lt n hn)) (.var rfl) (.int _ _)) (dbd (by omega)))) fun n _ _ => .var rfl) .int (.map (f := fun n : Nat => PyData.int (n : Int)) (atI_nat o3)))
          (.seq (.appendL (k := 1) (w := natW (outOf ds nums h)) (.var rfl) (.var rfl) rfl ?_) (.asg (.debtB (.var rfl) (.var rfl) hlt))))) ?_
        · rw [List.length_map, List.length_map] <;> rfl
        · rw [seen_len, List.length_map]
          omega
        · rw [List.length_map]
          omega
        · show Out.nx _ (M ++ [.dic (putW (seenL (way.map (dA ds))) (.inl (h : Int)) (natW (way.map (dA ds)).length)), .lst (way.map natW ++ [natW (outOf ds nums h)])]) = _
          rw [seen_put e]
          unfold waL
          rw [List.map_append, List.map_append]
          show _ = Out.nx _ (M ++ [.dic (seenL (way.map (dA ds) ++ [dA ds (outOf ds nums h)])), _])
          rw [o2] <;> rfl
      · exact walk_loop N hc hl n _ _ _ (w.step N e) (by rw [List.length_append, List.length_singleton]; omega)
theorem big_walked (h : T_walked M ws o) : BigF K E (t_walked K) (args 7 ws) M o := by
  obtain ⟨c, ds, nums, h, rfl, hc, hl, N, hs, rfl⟩ := h
  obtain ⟨w, hm⟩ := walkEnd_ok N 21 [] h (way0 hs) (by simp; omega)
  have hi := idx_get hm
  have hlt : (List.idxOf (walkEnd ds nums 21 [] h).2 ((walkEnd ds nums 21 [] h).1.map (dA ds))) < (walkEnd ds nums 21 [] h).1.length := by
    have := List.idxOf_lt_length_of_mem hm
    rw [List.length_map] at this
    exact this
  refine .dat (N0 := waL ds (walkEnd ds nums 21 [] h).1) (.seq (s1 := [some (dl (encDs ds)), some (dl (nI nums)), some (di h), some (.cel (M.length + 0)), none, none, none]) (M1 := M ++ [.dic []]) (.asg .dicC)
    (.seq (s1 := [some (dl (encDs ds)), some (dl (nI nums)), some (di h), some (.cel (M.length + 0)), some (.cel (M.length + 1)), none, none]) (M1 := M ++ waL ds []) (.newL (.lstC ea_nil (by decide)))
    (.seq (.whl (n := 21) (walk_loop N hc hl 21 [] h none (way0 hs) (by simp; omega))) (.ret (.is (.sl (ds := nI (walkEnd ds nums 21 [] h).1) (.var rfl) (eo_some (.dget (a := M.length + 0) (i := ((walkEnd ds nums 21 [] h).2 : Int)) (.var rfl) (.var rfl) (getL rfl) (seen_some w.nd hi))) eo_none (.cel (M := M ++ waL ds (walkEnd ds nums 21 [] h).1) ?_)) ?_)))))
  · rw [nI_dat]
    exact getL rfl
  · rw [Nat.zero_add, cutW_drop (by rw [List.length_map]; omega)]
    unfold walkR nI
    rw [List.map_drop]
def T_ring (M : List Cell) (ws : List W) (o : Res) : Prop := ∃ (c : Nat) (ds : List Dt), ws = [di c, dl (encDs ds)] ∧ Book c ds ∧ o = .ret (if (paidUp c ds).length < c then dl (nI (ringR c ds)) else dn) M
def t_ring (K : PySem.W.Frag) : TS := (tSeq (tAsg (tCall (spOf K T_paid_up) [] E0 (tCons (tVar 0) (tCons (tVar 1) tNil))) (gName 2))
    (tSeq (tIfS (tTest (tOp rEq (tCB (rLenX K) (tCons (tVar 2) tNil)) (tVar 0))) (tRet (tC .non)) tNext)
    (tSeq (tAsg (tLc (iRng1 (tCons (tCB (rLenX K) (tCons (tVar 1) tNil)) tNil)) (gName 4) (tAnd (tTest (tOp (rIn K true) (tOp (rIx K) (tOp (rIx K) (tVar 1) (tVar 4)) (tC (.int 0))) (tVar 2))) (tTest (tOp (rIn K true) (tOp (rIx K) (tOp (rIx K) (tVar 1) (tVar 4)) (tC (.int 1))) (tVar 2)))) (tVar 4) [4]) (gName 3))
    (tRet (tCall (spOf K T_walked) [] E0 (tCons (tVar 1) (tCons (tVar 3) (tCons (tOp (rIx K) (tOp (rIx K) (tVar 1) (tOp (rIx K) (tVar 3) (tC (.int 0)))) (tC (.int 0))) tNil))))))))
theorem big_ring (h : T_ring M ws o) : BigF K E (t_ring K) (args 5 ws) M o := by
  obtain ⟨c, ds, rfl, B, rfl⟩ := h
  have hle := paid_le c ds
  have hlen := B.len
  refine .rt (.st (w := dl (nI (paidUp c ds))) (.call (ea_cons (.var rfl) (ea_cons (.var rfl) ea_nil)) ⟨c, ds, rfl, B, rfl⟩) (.retIf (b := decide (((paidUp c ds).length : Int) = c)) (.test (.eq (.lenG (.var rfl) .map) (.var rfl) (.int _ _))) (fun q => ?_) (fun q => ?_) ⟨_, _, rfl⟩))
  · have q := of_decide_eq_true q
    rw [if_neg (by omega)]
    exact .ret .non
  · have q := of_decide_eq_false q
    rw [if_pos (by omega)]
    have hp := ringNums_pos B.ab (show (paidUp c ds).length < c by omega)
    have N := ringNums_ok B.ab
    have hm := getD_memN hp
    refine .st (w := dl (nI (ringNums c ds))) (.lcR (m := (ds.length : Int)) (p := fun n => !decide (dA ds n ∈ paidUp c ds) && !decide (dB ds n ∈ paidUp c ds)) (f := fun n => .int (n : Int)) (ea_cons (.lenG (.var rfl) .map) ea_nil) (by omega) (fun n hn => ?_) fun n _ _ => .var rfl) (.ret (.call (ea_cons (.var rfl) (ea_cons (.var rfl) (ea_cons (.debtA (n := (ringNums c ds).getD 0 0) (.var rfl) (.numI (k := 0) (.var rfl) .int rfl hp) (N.lt _ hm)) ea_nil))) ⟨c, ds, ringNums c ds, _, rfl, B.hi, ?_, N, ⟨_, hm, rfl⟩, rfl⟩))
    · have hn : n < ds.length := by omega
      refine .and (.test (.is (.notInI (ns := (paidUp c ds).map fun n : Nat => (n : Int)) (.debtA (.var rfl) (.var rfl) hn) (.is (.var rfl) (by rw [nI_int]))) ?_)) fun _ => .test (.is (.notInI (ns := (paidUp c ds).map fun n : Nat => (n : Int)) (.debtB (.var rfl) (.var rfl) hn) (.is (.var rfl) (by rw [nI_int]))) ?_)
      · rw [decide_eq_decide.mpr mem_ints]
      · rw [decide_eq_decide.mpr mem_ints]
    · unfold ringNums
      refine Nat.le_trans (List.length_filter_le _ _) ?_
      rw [List.length_range]
      omega
end
end Bk

set_option Elab.async false
set_option linter.all false
set_option maxRecDepth 100000
set_option maxHeartbeats 4000000
/-! L04: the law k04 and its own helpers -/
namespace Bk
open PySem L2 Vx RevL
local macro_rules | `(tactic| walk_at "ev") => `(tactic| repeat' first
  | exact Ev.var rfl | exact Ev.int | exact Ev.bl | exact Ev.str | exact Ev.non | exact ea_nil
  | apply Ev.add | apply Ev.sub | apply Ev.lt | apply Ev.le | apply Ev.gt | apply Ev.ge
  | apply Ev.mul | apply Ev.mod | apply Ev.div | apply Ev.pow
  | apply Ev.ixG | apply Ev.eq | apply Ev.ne | apply Ev.lenG | apply ed_cons
  | apply ea_cons | apply Ev.tup | apply EvB.val | apply EvB.test | apply EvB.not
  | apply Ev.isT | apply Ev.not | exact Nat.le_of_ble_eq_true rfl | exact EqOf.int _ _ | exact EqOf.bl _ _ | exact EqOf.str _ _
  | exact IxOf.tup rfl | exact LenOf.map | exact LenOf.dl | exact LenOf.tup _ | exact LstOf.dat _ | exact LstOf.scr _ | exact LstOf.cel rfl | exact LstOf.cel (getL rfl))
section
variable {K : PySem.W.Frag} {E : XK} {M M1 M2 : List Cell} {s : List Sl} {ws : List W} {o : Res} {ta tb : TE}
/-! a for over all numbers that does nothing: the tests stay false -/
theorem for_idle {α : Type} {g : TG} {bd : TS} {enc : α → W} {s1 : List Sl} {M : List Cell} {I : List Sl → Prop} (h0 : ∀ s, I s → Sub s s1) : ∀ (l : List α), (∀ a ∈ l, ∀ s, I s → ∃ s2, I s2 ∧ BigG K E g bd (enc a) s M (.nx s2 M)) → ∀ s, I s → ForL K E g bd (l.map enc) s M (.nx s1 M)
  | [], _, s, i => ⟨_, h0 s i, rfl⟩
  | a :: l, h, s, i => by
    obtain ⟨s2, i2, hb⟩ := h a List.mem_cons_self s i
    exact ⟨_, hb, for_idle h0 l (fun b hb => h b (List.mem_cons_of_mem _ hb)) s2 i2⟩
def T_qrises (M : List Cell) (ws : List W) (o : Res) : Prop := ∃ (ds : List Dt) (sp : Int), ws = [dl (encDs ds), di sp] ∧ ds.length ≤ 1000 ∧ o = .ret (dl (encDs (rises ds sp))) M
def u_qrises (K : PySem.W.Frag) : TS := (tSeq (tAsg (tOp (rIx K) (tVar 0) (tVar 3)) (gTup K 3 (gCons (gName 4) (gCons (gName 5) (gCons (gName 6) gNil)))))
    (tSeq (tIfS (tTest (tOp rNe (tOp xGt (tVar 4) (tVar 5)) (tOp rEq (tVar 3) (tVar 1)))) (tPar 4 5 (tCons (tVar 5) (tCons (tVar 4) tNil))) tNext)
    (tDrop (tBM K "list" rAppend (tVar 2) (tCons (tTup (tCons (tVar 4) (tCons (tVar 5) (tCons (tVar 6) tNil)))) tNil)))))
def t_qrises (K : PySem.W.Frag) : TS := (tSeq (tAsg (tLst tNil) (gName 2))
    (tSeq (tFor (iRng1 (tCons (tCB (rLenX K) (tCons (tVar 0) tNil)) tNil)) (gName 3) (u_qrises K))
    (tRet (tVar 2))))
theorem enc_snoc (acc : List Dt) (d : Dt) : (encDs (acc ++ [d])).map W.dat = (encDs acc).map W.dat ++ [.dat (encD d)] := by
  unfold encDs
  rw [List.map_append, List.map_append] <;> rfl
theorem rise_loop {ds : List Dt} {sp : Int} : ∀ (n k : Nat) (acc : List Dt) (a3 a4 a5 a6 : Sl), k + n ≤ ds.length → acc.length + n ≤ 1000 →
    ForL K E (gName 3) (u_qrises K) ((List.range' k n).map natW) [some (dl (encDs ds)), some (di sp), some (.cel (M.length + 0)), a3, a4, a5, a6] (M ++ [.lst ((encDs acc).map .dat)])
      (.nx [some (dl (encDs ds)), some (di sp), some (.cel (M.length + 0)), none, none, none, none] (M ++ [.lst ((encDs (acc ++ (List.range' k n).map fun j => riseD sp j (ds.getD j d0))).map .dat)]))
  | 0, k, acc, a3, a4, a5, a6, _, _ => ⟨_, .cons (.inr rfl) (.cons (.inr rfl) (.cons (.inr rfl) (.cons (.inl rfl) (.cons (.inl rfl) (.cons (.inl rfl) (.cons (.inl rfl) .nil)))))), by
      rw [List.range'_zero, List.map_nil, List.append_nil]⟩
  | n + 1, k, acc, a3, a4, a5, a6, hk, hl => by
    rw [List.range'_succ, List.map_cons, List.map_cons]
    refine ⟨.nx [some (dl (encDs ds)), some (di sp), some (.cel (M.length + 0)), none, none, none, none] (M ++ [.lst ((encDs (acc ++ [riseD sp k (ds.getD k d0)])).map .dat)]), .name (.seq (.unpack3 (x := .int (dA ds k)) (y := .int (dB ds k)) (z := .int (dM ds k)) (.ixG (.var rfl) (.var rfl) (.map (f := encD) (x := ds.getD k d0) (at_nat (by omega))))) ?_), ?_⟩
    · have ht : EvB K (tTest (tOp rNe (tOp xGt (tVar 4) (tVar 5)) (tOp rEq (tVar 3) (tVar 1)))) [some (dl (encDs ds)), some (di sp), some (.cel (M.length + 0)), some (natW k), some (di (dA ds k)), some (di (dB ds k)), some (di (dM ds k))] (M ++ [.lst ((encDs acc).map .dat)])
          (!decide (decide (dB ds k < dA ds k) = decide ((k : Int) = sp))) (M ++ [.lst ((encDs acc).map .dat)]) := by
        refine .test (.is (.ne (.gt (.var rfl) (.var rfl)) (.eq (.var rfl) (.var rfl) (.int _ _)) (.bl _ _)) ?_)
        have e : decide ((dB ds k : Int) < (dA ds k : Int)) = decide (dB ds k < dA ds k) := decide_eq_decide.mpr (by omega)
        rw [e]
      by_cases q : decide (dB ds k < dA ds k) = decide ((k : Int) = sp)
      · have e : riseD sp k (ds.getD k d0) = ds.getD k d0 := by
          unfold riseD
          exact if_pos q
        refine .weakN (s1 := [some (dl (encDs ds)), some (di sp), some (.cel (M.length + 0)), some (natW k), some (di (dA ds k)), some (di (dB ds k)), some (di (dM ds k))]) (.seqIte ht (fun z => by rw [decide_eq_true q] at z; cases z) fun _ => .seqN (.is (.appendL (k := 0) (w := .dat (encD (ds.getD k d0))) (.var rfl) ?_ rfl ?_) ?_)) ?_
        · exact .tup (ed_cons (.var rfl) (ed_cons (.var rfl) (ed_cons (.var rfl) ea_nil))) (Nat.le_of_ble_eq_true rfl)
        · rw [List.length_map, List.length_map]
          omega
        · rw [e, enc_snoc] <;> rfl
        · exact .cons (.inr rfl) (.cons (.inr rfl) (.cons (.inr rfl) (.cons (.inl rfl) (.cons (.inl rfl) (.cons (.inl rfl) (.cons (.inl rfl) .nil))))))
      · have e : riseD sp k (ds.getD k d0) = ⟨dB ds k, dA ds k, dM ds k⟩ := by
          unfold riseD
          exact if_neg q
        refine .weakN (s1 := [some (dl (encDs ds)), some (di sp), some (.cel (M.length + 0)), some (natW k), some (di (dB ds k)), some (di (dA ds k)), some (di (dM ds k))]) (.seqIte ht (fun _ => .seq (.par (ea_cons (.var rfl) (ea_cons (.var rfl) ea_nil))) (.is (.appendL (k := 0) (w := .dat (encD ⟨dB ds k, dA ds k, dM ds k⟩)) (.var rfl) ?_ rfl ?_) ?_)) fun z => by rw [decide_eq_false q] at z; cases z) ?_
        · exact .tup (ed_cons (.var rfl) (ed_cons (.var rfl) (ed_cons (.var rfl) ea_nil))) (Nat.le_of_ble_eq_true rfl)
        · rw [List.length_map, List.length_map]
          omega
        · rw [e, enc_snoc] <;> rfl
        · exact .cons (.inr rfl) (.cons (.inr rfl) (.cons (.inr rfl) (.cons (.inl rfl) (.cons (.inl rfl) (.cons (.inl rfl) (.cons (.inl rfl) .nil))))))
    · have q := rise_loop (ds := ds) (sp := sp) n (k + 1) (acc ++ [riseD sp k (ds.getD k d0)]) none none none none (by omega) (by rw [List.length_append, List.length_singleton]; omega)
      rw [List.append_assoc, List.singleton_append] at q
      exact q
theorem big_qrises (h : T_qrises M ws o) : BigF K E (t_qrises K) (args 7 ws) M o := by
  obtain ⟨ds, sp, rfl, hl, rfl⟩ := h
  refine .dat (N0 := [.dead]) (.seq (s1 := [some (dl (encDs ds)), some (di sp), some (.cel (M.length + 0)), none, none, none, none]) (M1 := M ++ [.lst ((encDs []).map .dat)]) (.asg (.lstC ea_nil (by decide)))
    (.seq (s1 := [some (dl (encDs ds)), some (di sp), some (.cel (M.length + 0)), none, none, none, none]) (M1 := M ++ [.lst ((encDs (rises ds sp)).map .dat)]) (.forR (n := (ds.length : Int)) (ea_cons (.lenG (.var rfl) .map) ea_nil) (by omega) (by omega) ?_) (.ret (.frzL (k := 0) (.var rfl) rfl))))
  have q := rise_loop (K := K) (E := E) (M := M) (ds := ds) (sp := sp) ds.length 0 [] none none none none (by omega) (by simpa using hl)
  rw [← List.range_eq_range'] at q
  exact q
def T_qis_ring (M : List Cell) (ws : List W) (o : Res) : Prop := ∃ (ds : List Dt) (nums r : List Nat), ws = [dl (encDs ds), dl (nI r)] ∧ r.length ≤ 1000 ∧ (∀ n ∈ nums, n < ds.length) ∧ IsRing ds nums r ∧ o = .ret (db true) M
def u_qis_ring (K : PySem.W.Frag) : TS := (tIfS (tOr (tNot (tB (tCall (spOf K T_qwhole) [] E0 (tCons (tVar 2) tNil)))) (tNot (tTest (tChain xLe xLt (tC (.int 0)) (tVar 2) (tCB (rLenX K) (tCons (tVar 0) tNil)))))) (tRet (tC (.bl false))) tNext)
def v_qis_ring (K : PySem.W.Frag) : TS := (tIfS (tTest (tOp rNe (tOp (rIx K) (tOp (rIx K) (tVar 0) (tOp (rIx K) (tVar 1) (tOp xSub (tVar 3) (tC (.int 1))))) (tC (.int 1))) (tOp (rIx K) (tOp (rIx K) (tVar 0) (tOp (rIx K) (tVar 1) (tVar 3))) (tC (.int 0))))) (tRet (tC (.bl false))) tNext)
def t_qis_ring (K : PySem.W.Frag) : TS := (tSeq (tIfS (tOr (tNot (tB (tCB (rIsi K) (tCons (tVar 1) (tCons (tC (.ty "list")) tNil))))) (tTest (tOp rEq (tCB (rLenX K) (tCons (tVar 1) tNil)) (tC (.int 0))))) (tRet (tC (.bl false))) tNext)
    (tSeq (tFor (iList K (tVar 1)) (gName 2) (u_qis_ring K))
    (tSeq (tFor (iRng1 (tCons (tCB (rLenX K) (tCons (tVar 1) tNil)) tNil)) (gName 3) (v_qis_ring K))
    (tRet (tOp rEq (RZ.tLenSetI K (tLc (iList K (tVar 1)) (gName 2) tYes (tOp (rIx K) (tOp (rIx K) (tVar 0) (tVar 2)) (tC (.int 0))) [2])) (tCB (rLenX K) (tCons (tVar 1) tNil)))))))
theorem atI_neg1 {α : Type} {l : List α} {d : α} (h : 0 < l.length) : atI l (-1) = some (l.getD (l.length - 1) d) := by
  have e : ixN l.length (-1) = some (l.length - 1) := by
    unfold ixN
    simp
    omega
  unfold atI
  rw [e]
  show l[l.length - 1]? = _
  rw [List.getD_eq_getElem?_getD, List.getElem?_eq_getElem (by omega)] <;> rfl
theorem big_qis_ring (h : T_qis_ring M ws o) : BigF K E (t_qis_ring K) (args 4 ws) M o := by
  obtain ⟨ds, nums, r, rfl, hl, hn, R, rfl⟩ := h
  have hp := R.pos
  have hr : ∀ n ∈ r, n < ds.length := fun n h => hn n (R.mem n h)
  refine .rt (.seqIte (b := false || false) (.or (b := false) (.is (b := !true) (.not (.val (.isT (.var rfl) (kit_lst _)))) rfl) fun _ => .test (.is (.eq (.lenG (.var rfl) .map) .int (.int _ _)) ?_)) (fun z => nomatch z) fun _ => .seqN
    (.seq (s1 := [some (dl (encDs ds)), some (dl (nI r)), none, none]) (M1 := M) (.forL (.var rfl) ?_) (.seq (s1 := [some (dl (encDs ds)), some (dl (nI r)), none, none]) (M1 := M) (.forR (n := (r.length : Int)) (ea_cons (.lenG (.var rfl) .map) ea_nil) (by omega) (by omega) ?_) (.ret (.is (.eq (.lenSet (ns := r.map fun n => (dA ds n : Int)) ?_ ?_ ?_) (.lenG (.var rfl) .map) (.int _ _)) ?_)))))
  · rw [decide_eq_false (by omega)]
  · rw [nI_dat]
    refine for_idle (enc := natW) (I := fun s => ∃ a, s = [some (dl (encDs ds)), some (dl (nI r)), a, none]) ?_ r ?_ _ ⟨_, rfl⟩
    · rintro _ ⟨a, rfl⟩
      exact .cons (.inr rfl) (.cons (.inr rfl) (.cons (.inl rfl) (.cons (.inr rfl) .nil)))
    · rintro n hm _ ⟨a, rfl⟩
      have := hr n hm
      refine ⟨_, ⟨_, rfl⟩, .name (.ite (b := !true || !(decide ((0 : Int) ≤ n) && decide ((n : Int) < ds.length))) (.or (.not (.val (.call (w := db true) (ea_cons (.var rfl) ea_nil) ⟨_, rfl, rfl⟩))) fun _ => .not (.test (.chain .int (.var rfl) fun _ => .lenG (.var rfl) .map))) (fun z => ?_) fun _ => .next)⟩
      rw [decide_eq_true (by omega), decide_eq_true (by omega)] at z
      cases z
  · rw [show (r.length : Int).toNat = r.length by omega]
    refine for_idle (enc := natW) (I := fun s => ∃ a, s = [some (dl (encDs ds)), some (dl (nI r)), none, a]) ?_ (List.range r.length) ?_ _ ⟨_, rfl⟩
    · rintro _ ⟨a, rfl⟩
      exact .cons (.inr rfl) (.cons (.inr rfl) (.cons (.inr rfl) (.cons (.inl rfl) .nil)))
    · rintro k hm _ ⟨a, rfl⟩
      have hk := List.mem_range.mp hm
      have hm2 := hr _ (getD_memN hk)
      refine ⟨[some (dl (encDs ds)), some (dl (nI r)), none, some (natW k)], ⟨_, rfl⟩, .name ?_⟩
      cases k with
      | zero =>
        have hm1 := hr _ (getD_memN (show r.length - 1 < r.length by omega))
        refine .ite (b := !decide ((dB ds (r.getD (r.length - 1) 0) : Int) = (dA ds (r.getD 0 0) : Int))) (.test (.ne (.debtB (.var rfl) (.ixG (.var rfl) (.is (w1 := di (-1)) (.sub (.var rfl) .int) rfl) (.map (f := fun n : Nat => PyData.int (n : Int)) (atI_neg1 hp))) hm1) (.debtA (.var rfl) (.numI (k := 0) (.var rfl) (.var rfl) rfl hk) hm2) (.int _ _))) (fun z => ?_) fun _ => .next
        rw [decide_eq_true (by rw [R.en])] at z
        cases z
      | succ k =>
        have hm1 := hr _ (getD_memN (show k < r.length by omega))
        refine .ite (b := !decide ((dB ds (r.getD k 0) : Int) = (dA ds (r.getD (k + 1) 0) : Int))) (.test (.ne (.debtB (.var rfl) (.numI (k := k) (.var rfl) (.sub (.var rfl) .int) (by omega) (by omega)) hm1) (.debtA (.var rfl) (.numI (k := k + 1) (.var rfl) (.var rfl) rfl hk) hm2) (.int _ _))) (fun z => ?_) fun _ => .next
        rw [decide_eq_true (by rw [R.ln k hk])] at z
        cases z
  · rw [List.map_map]
    exact .lcL1 (enc := natW) (f := fun n => .int (dA ds n : Int)) (.var rfl) lst_nI (by omega) fun n hn => .debtA (.var rfl) (.var rfl) (hr n hn)
  · have := R.nd
    rw [show (r.map fun n => (dA ds n : Int)) = (r.map (dA ds)).map fun n : Nat => (n : Int) by rw [List.map_map] <;> rfl]
    exact List.Pairwise.map _ (fun a b h => by omega) this
  · rw [List.length_map]
    omega
  · rw [List.length_map, decide_eq_true rfl]
def T_qis_order (M : List Cell) (ws : List W) (o : Res) : Prop := ∃ (c : Nat) (ds : List Dt) (l : List Nat), ws = [di c, dl (encDs ds), dl (nI l)] ∧ c ≤ 1000 ∧ ds.length ≤ 1000 ∧ IsOrder c ds l ∧ o = .ret (db true) M
def t_qis_order (K : PySem.W.Frag) : TS := (tSeq (tIfS (tOr (tNot (tB (tCB (rIsi K) (tCons (tVar 2) (tCons (tC (.ty "list")) tNil))))) (tNot (tB (tCB (rAll K) (tCons (tLc (iList K (tVar 2)) (gName 4) tYes (tCall (spOf K T_qwhole) [] E0 (tCons (tVar 4) tNil)) [4]) tNil))))) (tRet (tC (.bl false))) tNext)
    (tSeq (tIfS (tTest (tOp (rNeD K) (tCB (rSortedI K) (tCons (tVar 2) tNil)) (tLstRg (tRg1 (tVar 0))))) (tRet (tC (.bl false))) tNext)
    (tRet (tCB (rAll K) (tCons (tLc (iList K (tVar 1)) (gName 3) tYes (tOp xLt (tBM K "list" (rIndex K) (tVar 2) (tCons (tOp (rIx K) (tVar 3) (tC (.int 0))) tNil)) (tBM K "list" (rIndex K) (tVar 2) (tCons (tOp (rIx K) (tVar 3) (tC (.int 1))) tNil))) [3]) tNil)))))
theorem all_true {α : Type} {l : List α} {p : α → Bool} (h : ∀ x ∈ l, p x = true) : (l.map p).all id = true := by
  rw [List.all_map, List.all_eq_true]
  exact h
theorem get_ints {l : List Nat} {i n : Nat} (h : l[i]? = some n) : (l.map fun n : Nat => (n : Int))[i]? = some (n : Int) := by
  rw [List.getElem?_map, h] <;> rfl
theorem big_qis_order (h : T_qis_order M ws o) : BigF K E (t_qis_order K) (args 5 ws) M o := by
  obtain ⟨c, ds, l, rfl, hc, hds, O, rfl⟩ := h
  have hlen : l.length = c := by rw [O.pm.length_eq, List.length_range]
  have hnd : l.Nodup := O.pm.nodup_iff.mpr List.nodup_range
  have hndI : (l.map fun n : Nat => (n : Int)).Nodup := List.Pairwise.map _ (fun a b h => by omega) hnd
  have e3 : dl (nI l) = dl ((l.map fun n : Nat => (n : Int)).map .int) := by rw [nI_int]
  refine .rt (.seqIte (b := !true || !true) (.or (.not (.val (.isT (.var rfl) (kit_lst _)))) fun _ => .not (.val (.is (.all (bs := l.map fun _ => true) ?_) ?_))) (fun z => nomatch z) fun _ => .seqN (.seqIte (b := !true) (.test (.neP 1 (.sorted (ns := l.map fun n : Nat => (n : Int)) (ms := (List.range c).map fun n : Nat => (n : Int)) (.is (.var rfl) e3) (O.pm.symm.map _) ?_) (.listRange (.var rfl) (by omega)) (.dat _) (.dat _) (by decide) (pI_ints _) ?_ ?_)) (fun z => nomatch z) fun _ => .seqN (.ret (.is (.all (bs := ds.map fun _ => true) ?_) ?_))))
  · rw [List.map_map]
    exact .lcL1 (enc := natW) (f := fun _ => .bool true) (.var rfl) lst_nI (by omega) fun n hn => .call (ea_cons (.var rfl) ea_nil) ⟨_, rfl, rfl⟩
  · rw [all_true fun _ _ => rfl]
  · exact List.Pairwise.map _ (fun a b h => by omega) List.pairwise_lt_range
  · exact pI_map fun _ _ => rfl
  · refine ⟨fun _ => ?_, fun _ => rfl⟩
    rw [show (c : Int).toNat = c by omega, List.map_map] <;> rfl
  · rw [List.map_map]
    refine .lcL1 (enc := fun d => .dat (encD d)) (f := fun _ => .bool true) (.var rfl) lst_enc (by omega) fun d hd => ?_
    obtain ⟨i, j, hij, hi, hj⟩ := O.lt d hd
    refine .is (.lt (.indexI (j := i) (.is (.var rfl) e3) (.ixG (.var rfl) .int (.tup rfl)) hndI (get_ints hi)) (.indexI (j := j) (.is (.var rfl) e3) (.ixG (.var rfl) .int (.tup rfl)) hndI (get_ints hj))) ?_
    rw [decide_eq_true (by omega)]
  · rw [all_true fun _ _ => rfl]
def T_law04 (M : List Cell) (ws : List W) (o : Res) : Prop := ∃ ns : List Int, ns.length ≤ 63 ∧ ws = [.scr ns] ∧ o = .ret (db true) M
def u_law04 (K : PySem.W.Frag) : TS := (tSeq (tAsg (tCB (rListX K) (tCons (tVar 2) tNil)) (gName 3))
    (tSeq (tAsg (tCall (spOf K T_ring) [] E0 (tCons (tVar 1) (tCons (tVar 3) tNil))) (gName 4))
    (tSeq (tAsg (tCall (spOf K T_order) [] E0 (tCons (tVar 1) (tCons (tVar 3) tNil))) (gName 5))
    (tSeq (tIfS (tTest (tOp (rNeD K) (tVar 3) (tVar 2))) (tRet (tC (.bl false))) tNext)
    (tSeq (tIfS (tTest (tOp rIsN (tVar 4) (tC .non))) (tRet (tCall (spOf K T_qis_order) [] E0 (tCons (tVar 1) (tCons (tVar 2) (tCons (tVar 5) tNil))))) tNext)
    (tRet (tAndV (tOp rIsN (tVar 5) (tC .non)) (tCall (spOf K T_qis_ring) [] E0 (tCons (tVar 2) (tCons (tVar 4) tNil))))))))))
def t_law04 (K : PySem.W.Frag) : TS := (tSeq (tAsg (tCall (spOf K T_qcount) [] E0 (tCons (tVar 0) tNil)) (gName 1))
    (tSeq (tAsg (tCall (spOf K T_qdebts) [] E0 (tCons (tVar 0) (tCons (tC (.int 4)) (tCons (tVar 1) tNil)))) (gName 2))
    (tSeq (tIfS (tTest (tOp rEq (tOp xMod (tCall (spOf K T_qcell_at) [] E0 (tCons (tVar 0) (tCons (tC (.int 2)) tNil))) (tC (.int 2))) (tC (.int 1)))) (tAsg (tCall (spOf K T_qrises) [] E0 (tCons (tVar 2) (tCons (tOp xMod (tCall (spOf K T_qcell_at) [] E0 (tCons (tVar 0) (tCons (tC (.int 3)) tNil))) (tOp xAdd (tOp xMul (tC (.int 2)) (tCB (rLenX K) (tCons (tVar 2) tNil))) (tC (.int 1)))) tNil))) (gName 2)) tNext)
    (tSeq (tIfS (tTest (tOp rEq (tOp xMod (tCall (spOf K T_qcell_at) [] E0 (tCons (tVar 0) (tCons (tC (.int 0)) tNil))) (tC (.int 13))) (tC (.int 7)))) (tSeq (tAsg (tC (.int 1)) (gName 1))
    (tAsg (tLst tNil) (gName 2))) tNext)
    (u_law04 K)))))
theorem ringR_len {c : Nat} {ds : List Dt} {nums r : List Nat} (R : IsRing ds nums r) (N : Nums c ds nums) : r.length ≤ c := by
  have := nodup_le (c := c) R.nd fun x hx => by
    obtain ⟨n, hn, rfl⟩ := List.mem_map.mp hx
    exact N.a n (R.mem n hn)
  rw [List.length_map] at this
  exact this
theorem rest04 {w0 : W} {c : Nat} {ds : List Dt} (h : Book c ds) : Big K E (u_law04 K) [some w0, some (di c), some (dl (encDs ds)), none, none, none] M (.rt (db true) M) := by
  have hhi := h.hi
  have hlen := h.len
  refine .st (w := dl (encDs ds)) (.list (.var rfl) (.dat _)) (.st (.call (ea_cons (.var rfl) (ea_cons (.var rfl) ea_nil)) ⟨c, ds, rfl, h, rfl⟩) (.st (.call (ea_cons (.var rfl) (ea_cons (.var rfl) ea_nil)) ⟨c, ds, rfl, h, rfl⟩) (.retIf (b := !true) (.test (.neP 2 (.var rfl) (.var rfl) (.dat _) (.dat _) (by decide) (pI_encDs ds) (pI_encDs ds) (by simp))) (fun z => nomatch z) (fun _ => ?_) ⟨_, _, rfl⟩)))
  by_cases q : (paidUp c ds).length < c
  · have R := ringR_ok hhi h.ab q
    have N := ringNums_ok h.ab
    rw [if_pos q, if_pos q]
    refine .retIf (b := false) (.test (.isN (w1 := dl (nI (ringR c ds))) (.var rfl) .non)) (fun z => nomatch z) (fun _ => .ret (.is (w := db (true && true)) (.and (.isN (w1 := dn) (.var rfl) .non) fun _ => .call (ea_cons (.var rfl) (ea_cons (.var rfl) ea_nil)) ⟨ds, ringNums c ds, ringR c ds, rfl, ?_, fun n hn => N.lt n hn, R, rfl⟩) rfl)) ⟨_, _, rfl⟩
    have := ringR_len R N
    omega
  · rw [if_neg q, if_neg q]
    exact .retIf (b := true) (.test (.isN (w1 := dn) (.var rfl) .non)) (fun _ => .ret (.call (ea_cons (.var rfl) (ea_cons (.var rfl) (ea_cons (.var rfl) ea_nil))) ⟨c, ds, (paidUp c ds).reverse, rfl, by omega, by omega, order_ok h.ab q, rfl⟩)) (fun z => nomatch z) ⟨_, _, rfl⟩
theorem big_law04 (h : T_law04 M ws o) : BigF K E (t_law04 K) (args 6 ws) M o := by
  obtain ⟨ns, _, rfl, rfl⟩ := h
  obtain ⟨h2, h20⟩ := count_ok ns
  have B := (debts_ok (ns := ns) (f := 4) h2 h20).1
  have B1 : Book (count ns) (if decide (cellAt ns 2 % 2 = 1) = true then rises (debts ns 4 (count ns)) (cellAt ns 3 % (2 * ((debts ns 4 (count ns)).length : Int) + 1)) else debts ns 4 (count ns)) := by
    split
    · exact rises_ok B
    · exact B
  have hl := B.len
  refine .rt (.st (.call (ea_cons (.var rfl) ea_nil) ⟨ns, rfl, rfl⟩) (.st (.call (w := dl (encDs (debts ns 4 (count ns)))) (ea_cons (.var rfl) (ea_cons .int (ea_cons (.var rfl) ea_nil))) ⟨ns, 4, count ns, rfl, h2, h20, rfl⟩)
    (.stIf (b := decide (cellAt ns 2 % 2 = 1)) (w1 := dl (encDs (rises (debts ns 4 (count ns)) (cellAt ns 3 % (2 * ((debts ns 4 (count ns)).length : Int) + 1))))) (w := dl (encDs (if decide (cellAt ns 2 % 2 = 1) = true then rises (debts ns 4 (count ns)) (cellAt ns 3 % (2 * ((debts ns 4 (count ns)).length : Int) + 1)) else debts ns 4 (count ns)))) ?_ (fun _ => ?_) rfl ?_
    (.seqIte (b := decide (cellAt ns 0 % 13 = 7)) ?_ (fun _ => .assoc (.st .int (.st (w := dl []) (.lst ea_nil (by decide)) ?_))) (fun _ => .seqN (rest04 B1))))))
  · exact .test (.eq (.mod (.call (w := di (cellAt ns 2)) (ea_cons (.var rfl) (ea_cons .int ea_nil)) ⟨ns, 2, rfl, rfl⟩) .int (by decide)) .int (.int _ _))
  · refine .call (ea_cons (.var rfl) (ea_cons (.mod (.call (w := di (cellAt ns 3)) (ea_cons (.var rfl) (ea_cons .int ea_nil)) ⟨ns, 3, rfl, rfl⟩) (.add (.mul .int (.lenG (.var rfl) .map) (mulL (by omega))) .int) (by omega)) ea_nil)) ⟨_, _, rfl, by omega, rfl⟩
  · split <;> rfl
  · exact .test (.eq (.mod (.call (w := di (cellAt ns 0)) (ea_cons (.var rfl) (ea_cons .int ea_nil)) ⟨ns, 0, rfl, rfl⟩) .int (by decide)) .int (.int _ _))
  · exact rest04 (c := 1) (ds := []) ⟨by decide, by decide, by decide, fun d hd => nomatch hd⟩
end
end Bk

set_option Elab.async false
set_option linter.all false
set_option maxRecDepth 100000
set_option maxHeartbeats 4000000
/-! C03: need_cut, worth, left, even, need_even -/
namespace Bk
open PySem L2 Vx
/-- a cut's data -/
abbrev iI (f : List Int) : List PyData := f.map PyData.int
def isCut (ds : List Dt) : PyData → Bool
  | .list cs => decide (cs.length = ds.length) && (List.range ds.length).all fun n => wh 0 (dM ds n) (cs.getD n .none)
  | _ => false
theorem isCut_list {ds : List Dt} {cs : List PyData} : isCut ds (.list cs) = (decide (cs.length = ds.length) && (List.range ds.length).all fun n => wh 0 (dM ds n) (cs.getD n .none)) := rfl
theorem iI_get {f : List Int} {n : Nat} (h : n < f.length) : (iI f).getD n .none = .int (f.getD n 0) := by
  rw [List.getD_eq_getElem?_getD, List.getD_eq_getElem?_getD, List.getElem?_map, List.getElem?_eq_getElem h] <;> rfl
theorem whT {lo hi i : Int} (h1 : lo ≤ i) (h2 : i ≤ hi) : wh lo hi (.int i) = true := by
  show (decide _ && decide _) = true
  rw [decide_eq_true h1, decide_eq_true h2] <;> rfl
theorem isCut_ok {ds : List Dt} {f : List Int} (k : CutOk ds f) : isCut ds (.list (iI f)) = true := by
  rw [isCut_list, List.length_map, decide_eq_true k.len, Bool.true_and, List.all_eq_true]
  intro n hn
  have hn := List.mem_range.mp hn
  rw [iI_get (by rw [k.len]; exact hn)]
  exact whT (k.lo n hn) (k.hi n hn)
theorem isCut_inv {ds : List Dt} {d : PyData} (h : isCut ds d = true) : ∃ f, d = .list (iI f) ∧ CutOk ds f := by
  unfold isCut at h
  split at h
  · rename_i cs
    rw [Bool.and_eq_true, decide_eq_true_eq, List.all_eq_true] at h
    have hi : ∀ n, n < cs.length → ∃ i, cs.getD n .none = .int i ∧ 0 ≤ i ∧ i ≤ dM ds n := fun n hn => wh_int (h.2 n (List.mem_range.mpr (by omega)))
    let f := (List.range cs.length).map fun n => match cs.getD n .none with | .int i => i | _ => 0
    have hf : ∀ n, n < cs.length → f.getD n 0 = (match cs.getD n .none with | .int i => i | _ => 0) := fun n hn => getD_map_range hn
    have hl : f.length = cs.length := by
      show (List.map _ _).length = _
      rw [List.length_map, List.length_range]
    refine ⟨f, ?_, by rw [hl, h.1], fun n hn => ?_, fun n hn => ?_⟩
    · congr 1
      apply List.ext_getElem (by rw [List.length_map, hl])
      intro n h1 h2
      obtain ⟨i, e, _⟩ := hi n h1
      have q := hf n h1
      rw [e] at q
      rw [List.getD_eq_getElem?_getD, List.getElem?_eq_getElem h1] at e
      rw [List.getD_eq_getElem?_getD, List.getElem?_eq_getElem (by omega)] at q
      rw [List.getElem_map]
      exact e.trans (congrArg PyData.int q).symm
    · obtain ⟨i, e, h1, h2⟩ := hi n (by omega)
      rw [hf n (by omega), e]
      exact h1
    · obtain ⟨i, e, h1, h2⟩ := hi n (by omega)
      rw [hf n (by omega), e]
      exact h2
  · cases h
section
variable {K : PySem.W.Frag} {E : XK} {M M1 M2 : List Cell} {s : List Sl} {ws : List W} {o : Res} {X : Xs} {ta tb : TE}
theorem at_getD {α : Type} {l : List α} {i : Int} {d : α} {n : Nat} (hi : i = (n : Int)) (h : n < l.length) : atI l i = some (l.getD n d) := by
  subst hi
  exact at_nat h
/-- f[n], f a list of numbers -/
theorem _root_.Vx.Ev.intI {f : List Int} {n : Nat} {i : Int} (ha : Ev K ta s M (dl (iI f)) M1) (hb : Ev K tb s M1 (di i) M2) (hi : i = (n : Int)) (hn : n < f.length) : Ev K (tOp (rIx K) ta tb) s M (di (f.getD n 0)) M2 :=
  .ixG ha hb (.map (f := PyData.int) (x := f.getD n 0) (at_getD hi hn))
def T_need_cut (X : Xs) (M : List Cell) (ws : List W) (o : Res) : Prop := ∃ (ds : List Dt) (d : PyData), ws = [dl (encDs ds), .dat d] ∧ ds.length ≤ 1000 ∧ o = if isCut ds d = true then .ret dn M else .rz (.ref X.BadCut) M
def u_need_cut (K : PySem.W.Frag) (E : XK) (X : Xs) : TS := (tIfS (tNot (tB (tCall (spOf K T_within) [] E0 (tCons (tOp (rIx K) (tVar 1) (tVar 2)) (tCons (tC (.int 0)) (tCons (tOp (rIx K) (tOp (rIx K) (tVar 0) (tVar 2)) (tC (.int 2))) tNil)))))) (tRz E X.BadCut) tNext)
def t_need_cut (K : PySem.W.Frag) (E : XK) (X : Xs) : TS := (tSeq (tIfS (tOr (tNot (tB (tCB (rIsi K) (tCons (tVar 1) (tCons (tC (.ty "list")) tNil))))) (tTest (tOp rNe (tCB (rLenX K) (tCons (tVar 1) tNil)) (tCB (rLenX K) (tCons (tVar 0) tNil))))) (tRz E X.BadCut) tNext)
    (tFor (iRng1 (tCons (tCB (rLenX K) (tCons (tVar 0) tNil)) tNil)) (gName 2) (u_need_cut K E X)))
theorem need_loop {ds : List Dt} {cs : List PyData} (hl : cs.length = ds.length) : ∀ (l : List Nat) (a2 : Sl), (∀ n ∈ l, n < ds.length) →
    ForL K E (gName 2) (u_need_cut K E X) (l.map natW) [some (dl (encDs ds)), some (dl cs), a2] M (if (l.all fun n => wh 0 (dM ds n) (cs.getD n .none)) = true then .nx [some (dl (encDs ds)), some (dl cs), none] M else .rz (.ref X.BadCut) M)
  | [], a2, _ => ⟨_, .cons (.inr rfl) (.cons (.inr rfl) (.cons (.inl rfl) .nil)), rfl⟩
  | n :: l, a2, h => by
    have hn := h n List.mem_cons_self
    have ht : EvB K (tNot (tB (tCall (spOf K T_within) [] E0 (tCons (tOp (rIx K) (tVar 1) (tVar 2)) (tCons (tC (.int 0)) (tCons (tOp (rIx K) (tOp (rIx K) (tVar 0) (tVar 2)) (tC (.int 2))) tNil)))))) [some (dl (encDs ds)), some (dl cs), some (natW n)] M (!wh 0 (dM ds n) (cs.getD n .none)) M :=
      .not (.val (.call (ea_cons (.ixG (.var rfl) (.var rfl) (.dat (at_nat (by omega)))) (ea_cons .int (ea_cons (.debtM (.var rfl) (.var rfl) hn) ea_nil))) ⟨_, _, _, rfl, rfl⟩))
    rw [List.all_cons]
    by_cases q : wh 0 (dM ds n) (cs.getD n .none) = true
    · rw [q, Bool.true_and]
      exact ⟨_, .name (.ite ht (fun z => by rw [q] at z; cases z) fun _ => .next), need_loop hl l _ fun m hm => h m (List.mem_cons_of_mem _ hm)⟩
    · have q' : wh 0 (dM ds n) (cs.getD n .none) = false := by simpa using q
      rw [q', Bool.false_and, if_neg Bool.false_ne_true]
      exact ⟨_, .name (.ite ht (fun _ => .rz) fun z => by rw [q'] at z; cases z), rfl⟩
theorem big_need_cut (h : T_need_cut X M ws o) : BigF K E (t_need_cut K E X) (args 3 ws) M o := by
  obtain ⟨ds, d, rfl, hlen, rfl⟩ := h
  have ht : EvB K (tNot (tB (tCB (rIsi K) (tCons (tVar 1) (tCons (tC (.ty "list")) tNil))))) (args 3 [dl (encDs ds), .dat d]) M (!isLst d) M := .not (.val (.isT (.var rfl) (kit_lst d)))
  have bad : isCut ds d = false → EvB K (tOr (tNot (tB (tCB (rIsi K) (tCons (tVar 1) (tCons (tC (.ty "list")) tNil))))) (tTest (tOp rNe (tCB (rLenX K) (tCons (tVar 1) tNil)) (tCB (rLenX K) (tCons (tVar 0) tNil))))) (args 3 [dl (encDs ds), .dat d]) M true M → BigF K E (t_need_cut K E X) (args 3 [dl (encDs ds), .dat d]) M (if isCut ds d = true then .ret dn M else .rz (.ref X.BadCut) M) := fun hb hc => by
    rw [hb, if_neg Bool.false_ne_true]
    exact .raise (N0 := []) (.is (.seqIte hc (fun _ => .seqZ .rz) fun z => nomatch z) (by rw [List.append_nil]))
  cases d with
  | list cs =>
    have hc : EvB K (tOr (tNot (tB (tCB (rIsi K) (tCons (tVar 1) (tCons (tC (.ty "list")) tNil))))) (tTest (tOp rNe (tCB (rLenX K) (tCons (tVar 1) tNil)) (tCB (rLenX K) (tCons (tVar 0) tNil))))) (args 3 [dl (encDs ds), dl cs]) M (!decide ((cs.length : Int) = ds.length)) M := .or ht fun _ => .test (.ne (.lenG (.var rfl) .dl) (.lenG (.var rfl) .map) (.int _ _))
    by_cases hl : cs.length = ds.length
    · have q := need_loop (K := K) (E := E) (M := M) (X := X) hl (List.range ds.length) none fun n hn => List.mem_range.mp hn
      have e : isCut ds (.list cs) = (List.range ds.length).all fun n => wh 0 (dM ds n) (cs.getD n .none) := by
        rw [isCut_list, decide_eq_true hl, Bool.true_and]
      rw [e]
      by_cases z : ((List.range ds.length).all fun n => wh 0 (dM ds n) (cs.getD n .none)) = true
      · rw [if_pos z] at q ⊢
        exact .none (N0 := []) (.is (.seqIte hc (fun y => by rw [decide_eq_true (by omega)] at y; cases y) fun _ => .seqN (.forR (n := (ds.length : Int)) (ea_cons (.lenG (.var rfl) .map) ea_nil) (by omega) (by omega) q)) (by rw [List.append_nil]))
      · rw [if_neg z] at q ⊢
        exact .raise (N0 := []) (.is (.seqIte hc (fun y => by rw [decide_eq_true (by omega)] at y; cases y) fun _ => .seqN (.forR (n := (ds.length : Int)) (ea_cons (.lenG (.var rfl) .map) ea_nil) (by omega) (by omega) q)) (by rw [List.append_nil]))
    · refine bad ?_ (.is hc ?_)
      · rw [isCut_list, decide_eq_false hl, Bool.false_and]
      · rw [decide_eq_false (by omega)] <;> rfl
  | _ => exact bad rfl (.or (c := true) ht fun z => nomatch z)
/-- the call of need_cut at a cut, and at none -/
theorem need_yes {ds : List Dt} {f : List Int} {t : TS} (k : CutOk ds f) (hl : ds.length ≤ 1000) {a b : TE} (ha : Ev K a s M (dl (encDs ds)) M) (hb : Ev K b s M (dl (iI f)) M) : Big K E (tDrop (tCall (spOf K (T_need_cut X)) [] E (tCons a (tCons b tNil)))) s M (.nx s M) :=
  .drop (.call (w := dn) (ea_cons ha (ea_cons hb ea_nil)) ⟨ds, _, rfl, hl, by rw [if_pos (isCut_ok k)]⟩)
theorem need_no {ds : List Dt} {d : PyData} (k : isCut ds d = false) (hl : ds.length ≤ 1000) {a b : TE} (ha : Ev K a s M (dl (encDs ds)) M) (hb : Ev K b s M (.dat d) M) : Big K E (tDrop (tCall (spOf K (T_need_cut X)) [] E (tCons a (tCons b tNil)))) s M (.rz (.ref X.BadCut) M) :=
  .callZ (ea_cons ha (ea_cons hb ea_nil)) ⟨ds, _, rfl, hl, by rw [k, if_neg Bool.false_ne_true]⟩
def T_worth (X : Xs) (M : List Cell) (ws : List W) (o : Res) : Prop := ∃ (ds : List Dt) (d : PyData), ws = [dl (encDs ds), .dat d] ∧ ds.length ≤ 1000 ∧ ((∃ f, d = .list (iI f) ∧ CutOk ds f ∧ o = .ret (di f.sum) M) ∨ (isCut ds d = false ∧ o = .rz (.ref X.BadCut) M))
def t_worth (K : PySem.W.Frag) (E : XK) (X : Xs) : TS := (tSeq (tDrop (tCall (spOf K (T_need_cut X)) [] E (tCons (tVar 0) (tCons (tVar 1) tNil))))
    (tRet (tCB (rSum K) (tCons (tVar 1) tNil))))
theorem lst_iI {f : List Int} : LstOf M (dl (iI f)) (f.map di) := by
  have q := LstOf.dat (M := M) (iI f)
  rw [map_dat_ints] at q
  exact q
theorem big_worth (h : T_worth X M ws o) : BigF K E (t_worth K E X) (args 2 ws) M o := by
  obtain ⟨ds, d, rfl, hl, ⟨f, rfl, k, rfl⟩ | ⟨k, rfl⟩⟩ := h
  · exact .rt (.seq (need_yes (t := tNext) k hl (.var rfl) (.var rfl)) (.ret (.sumL (.var rfl) lst_iI)))
  · exact .raise (N0 := []) (.is (.seqZ (need_no k hl (.var rfl) (.var rfl))) (by rw [List.append_nil]))
/-- what is left, nothing left out -/
def leftOf (ds : List Dt) (f : List Int) : List Dt := ((List.range ds.length).filter fun n => decide (f.getD n 0 < dM ds n)).map fun n => ⟨dA ds n, dB ds n, dM ds n - f.getD n 0⟩
def T_left (X : Xs) (M : List Cell) (ws : List W) (o : Res) : Prop := ∃ (ds : List Dt) (d : PyData), ws = [dl (encDs ds), .dat d] ∧ ds.length ≤ 1000 ∧ ((∃ f, d = .list (iI f) ∧ CutOk ds f ∧ o = .ret (.cel M.length) (M ++ [.lst ((encDs (leftOf ds f)).map .dat)])) ∨ (isCut ds d = false ∧ o = .rz (.ref X.BadCut) M))
def u_left (K : PySem.W.Frag) : TS := (tSeq (tAsg (tOp (rIx K) (tVar 0) (tVar 3)) (gTup K 3 (gCons (gName 4) (gCons (gName 5) (gCons (gName 6) gNil)))))
    (tIfS (tTest (tOp xLt (tOp (rIx K) (tVar 1) (tVar 3)) (tVar 6))) (tDrop (tBM K "list" rAppend (tVar 2) (tCons (tTup (tCons (tVar 4) (tCons (tVar 5) (tCons (tOp xSub (tVar 6) (tOp (rIx K) (tVar 1) (tVar 3))) tNil)))) tNil))) tNext))
def t_left (K : PySem.W.Frag) (E : XK) (X : Xs) : TS := (tSeq (tDrop (tCall (spOf K (T_need_cut X)) [] E (tCons (tVar 0) (tCons (tVar 1) tNil))))
    (tSeq (tAsg (tLst tNil) (gName 2))
    (tSeq (tFor (iRng1 (tCons (tCB (rLenX K) (tCons (tVar 0) tNil)) tNil)) (gName 3) (u_left K))
    (tRet (tVar 2)))))
theorem enc_snoc' (acc : List Dt) (d : Dt) : (encDs (acc ++ [d])).map W.dat = (encDs acc).map W.dat ++ [.dat (encD d)] := by
  unfold encDs
  rw [List.map_append, List.map_append] <;> rfl
theorem left_loop {ds : List Dt} {f : List Int} (hf : f.length = ds.length) : ∀ (l : List Nat) (acc : List Dt) (a3 a4 a5 a6 : Sl), (∀ n ∈ l, n < ds.length) → acc.length + l.length ≤ 2000 →
    ForL K E (gName 3) (u_left K) (l.map natW) [some (dl (encDs ds)), some (dl (iI f)), some (.cel (M.length + 0)), a3, a4, a5, a6] (M ++ [.lst ((encDs acc).map .dat)])
      (.nx [some (dl (encDs ds)), some (dl (iI f)), some (.cel (M.length + 0)), none, none, none, none] (M ++ [.lst ((encDs (acc ++ (l.filter fun n => decide (f.getD n 0 < dM ds n)).map fun n => ⟨dA ds n, dB ds n, dM ds n - f.getD n 0⟩)).map .dat)]))
  | [], acc, a3, a4, a5, a6, _, _ => ⟨_, .cons (.inr rfl) (.cons (.inr rfl) (.cons (.inr rfl) (.cons (.inl rfl) (.cons (.inl rfl) (.cons (.inl rfl) (.cons (.inl rfl) .nil)))))), by
      rw [List.filter_nil, List.map_nil, List.append_nil]⟩
  | n :: l, acc, a3, a4, a5, a6, h, hl => by
    have hn := h n List.mem_cons_self
    rw [List.length_cons] at hl
    have ht : EvB K (tTest (tOp xLt (tOp (rIx K) (tVar 1) (tVar 3)) (tVar 6))) [some (dl (encDs ds)), some (dl (iI f)), some (.cel (M.length + 0)), some (natW n), some (di (dA ds n)), some (di (dB ds n)), some (di (dM ds n))] (M ++ [.lst ((encDs acc).map .dat)]) (decide (f.getD n 0 < dM ds n)) (M ++ [.lst ((encDs acc).map .dat)]) :=
      .test (.lt (.intI (.var rfl) (.var rfl) rfl (by omega)) (.var rfl))
    have un : ∀ {o : Out}, Big K E (tIfS (tTest (tOp xLt (tOp (rIx K) (tVar 1) (tVar 3)) (tVar 6))) (tDrop (tBM K "list" rAppend (tVar 2) (tCons (tTup (tCons (tVar 4) (tCons (tVar 5) (tCons (tOp xSub (tVar 6) (tOp (rIx K) (tVar 1) (tVar 3))) tNil)))) tNil))) tNext) [some (dl (encDs ds)), some (dl (iI f)), some (.cel (M.length + 0)), some (natW n), some (di (dA ds n)), some (di (dB ds n)), some (di (dM ds n))] (M ++ [.lst ((encDs acc).map .dat)]) o →
        BigG K E (gName 3) (u_left K) (natW n) [some (dl (encDs ds)), some (dl (iI f)), some (.cel (M.length + 0)), a3, a4, a5, a6] (M ++ [.lst ((encDs acc).map .dat)]) o := fun q =>
      .name (.seq (.unpack3 (x := .int (dA ds n)) (y := .int (dB ds n)) (z := .int (dM ds n)) (.ixG (.var rfl) (.var rfl) (.map (f := encD) (x := ds.getD n d0) (at_nat hn)))) q)
    by_cases q : f.getD n 0 < dM ds n
    · rw [List.filter_cons_of_pos (by simpa using q), List.map_cons]
      refine ⟨_, un (.ite ht (fun _ => .appendL (k := 0) (w := .dat (encD ⟨dA ds n, dB ds n, dM ds n - f.getD n 0⟩)) (.var rfl) (.tup (ed_cons (.var rfl) (ed_cons (.var rfl) (ed_cons (.sub (.var rfl) (.intI (.var rfl) (.var rfl) rfl (by omega))) ea_nil))) (Nat.le_of_ble_eq_true rfl)) rfl ?_) fun z => absurd q (of_decide_eq_false z)), ?_⟩
      · rw [List.length_map, List.length_map]
        omega
      · have ih := left_loop hf l (acc ++ [⟨dA ds n, dB ds n, dM ds n - f.getD n 0⟩]) (some (natW n)) (some (di (dA ds n))) (some (di (dB ds n))) (some (di (dM ds n))) (fun m hm => h m (List.mem_cons_of_mem _ hm)) (by rw [List.length_append, List.length_singleton]; omega)
        rw [List.append_assoc, List.singleton_append, enc_snoc'] at ih
        exact ih
    · rw [List.filter_cons_of_neg (by simpa using q)]
      exact ⟨_, un (.ite ht (fun z => absurd (of_decide_eq_true z) q) fun _ => .next), left_loop hf l acc _ _ _ _ (fun m hm => h m (List.mem_cons_of_mem _ hm)) (by omega)⟩
theorem big_left (h : T_left X M ws o) : BigF K E (t_left K E X) (args 7 ws) M o := by
  obtain ⟨ds, d, rfl, hl, ⟨f, rfl, k, rfl⟩ | ⟨k, rfl⟩⟩ := h
  · have q := left_loop (K := K) (E := E) (M := M) k.len (List.range ds.length) [] none none none none (fun n hn => List.mem_range.mp hn) (by rw [List.length_range, List.length_nil]; omega)
    rw [List.nil_append] at q
    refine .rt (.seq (need_yes (t := tNext) k hl (.var rfl) (.var rfl)) (.seq (s1 := [some (dl (encDs ds)), some (dl (iI f)), some (.cel (M.length + 0)), none, none, none, none]) (M1 := M ++ [.lst ((encDs []).map .dat)]) (.asg (.lstC ea_nil (by decide))) (.seq (s1 := [some (dl (encDs ds)), some (dl (iI f)), some (.cel (M.length + 0)), none, none, none, none]) (M1 := M ++ [.lst ((encDs (leftOf ds f)).map .dat)]) (.forR (n := (ds.length : Int)) (ea_cons (.lenG (.var rfl) .map) ea_nil) (by omega) (by omega) ?_) (.ret (.var rfl)))))
    exact q
  · exact .raise (N0 := []) (.is (.seqZ (need_no k hl (.var rfl) (.var rfl))) (by rw [List.append_nil]))
def T_even (X : Xs) (M : List Cell) (ws : List W) (o : Res) : Prop := ∃ (c : Nat) (ds : List Dt) (d : PyData), ws = [di c, dl (encDs ds), .dat d] ∧ c ≤ 1000 ∧ ds.length ≤ 1000 ∧ (∀ d ∈ ds, d.a < c ∧ d.b < c) ∧ ((∃ f, d = .list (iI f) ∧ CutOk ds f ∧ o = .ret (db (evenB c ds f)) M) ∨ (isCut ds d = false ∧ o = .rz (.ref X.BadCut) M))
def t_even (K : PySem.W.Frag) (E : XK) (X : Xs) : TS := (tSeq (tDrop (tCall (spOf K (T_need_cut X)) [] E (tCons (tVar 1) (tCons (tVar 2) tNil))))
    (tSeq (tAsg (tLc (iRng1 (tCons (tCB (rLenX K) (tCons (tVar 1) tNil)) tNil)) (gName 4) tYes (tTup (tCons (tOp (rIx K) (tOp (rIx K) (tVar 1) (tVar 4)) (tC (.int 0))) (tCons (tOp (rIx K) (tOp (rIx K) (tVar 1) (tVar 4)) (tC (.int 1))) (tCons (tOp (rIx K) (tVar 2) (tVar 4)) tNil)))) [4]) (gName 3))
    (tRet (tOp (rEqD K) (tCall (spOf K T_balances) [] E0 (tCons (tVar 0) (tCons (tVar 3) tNil))) (tOp rRep (tLst (tCons (tC (.int 0)) tNil)) (tVar 0))))))
theorem rows_ev {ds : List Dt} {f : List Int} {s : List Sl} {a b : TE} {i : Nat} (hf : f.length = ds.length) (hl : ds.length ≤ 1000) (ha : ∀ n, Ev K a (s.set i (some (natW n))) M (dl (encDs ds)) M) (ha0 : Ev K a s M (dl (encDs ds)) M) (hb : ∀ n, Ev K b (s.set i (some (natW n))) M (dl (iI f)) M) (hi : i < s.length) :
    Ev K (tLc (iRng1 (tCons (tCB (rLenX K) (tCons a tNil)) tNil)) (gName i) tYes (tTup (tCons (tOp (rIx K) (tOp (rIx K) a (tVar i)) (tC (.int 0))) (tCons (tOp (rIx K) (tOp (rIx K) a (tVar i)) (tC (.int 1))) (tCons (tOp (rIx K) b (tVar i)) tNil)))) [i]) s M (dl (encDs (withCut ds f))) M := by
  have q := Ev.lcR1 (K := K) (M := M) (s := s) (n := i) (m := (ds.length : Int)) (g := fun n => encD ⟨dA ds n, dB ds n, f.getD n 0⟩) (trA := tCons (tCB (rLenX K) (tCons a tNil)) tNil) (te := tTup (tCons (tOp (rIx K) (tOp (rIx K) a (tVar i)) (tC (.int 0))) (tCons (tOp (rIx K) (tOp (rIx K) a (tVar i)) (tC (.int 1))) (tCons (tOp (rIx K) b (tVar i)) tNil))))
    (ea_cons (.lenG ha0 .map) ea_nil) (by omega) fun n hn => by
      have hv : Ev K (tVar i) (s.set i (some (natW n))) M (natW n) M := .var (by rw [List.getElem?_set_self hi])
      exact .tup (ed_cons (.debtA (ha n) hv (by omega)) (ed_cons (.debtB (ha n) hv (by omega)) (ed_cons (.intI (hb n) hv rfl (by omega)) ea_nil))) (Nat.le_of_ble_eq_true rfl)
  unfold withCut encDs
  rw [List.map_map]
  exact q
theorem mapInt_inj : ∀ {a b : List Int}, a.map PyData.int = b.map PyData.int → a = b
  | [], [], _ => rfl
  | [], _ :: _, h => nomatch h
  | _ :: _, [], h => nomatch h
  | x :: a, y :: b, h => by
    rw [List.map_cons, List.map_cons, List.cons.injEq] at h
    rw [PyData.int.inj h.1, mapInt_inj h.2]
theorem bal_pI (l : List Int) : pI 1 (.list (l.map .int)) = true := pI_ints l
theorem big_even (h : T_even X M ws o) : BigF K E (t_even K E X) (args 5 ws) M o := by
  obtain ⟨c, ds, d, rfl, hc, hl, hb, ⟨f, rfl, k, rfl⟩ | ⟨k, rfl⟩⟩ := h
  · refine .rt (.seq (need_yes (t := tNext) k hl (.var rfl) (.var rfl)) (.st (w := dl (encDs (withCut ds f))) (rows_ev k.len hl (fun n => .var rfl) (.var rfl) (fun n => .var rfl) (Nat.le_of_ble_eq_true rfl)) (.ret (.eqP 1 (.call (ea_cons (.var rfl) (ea_cons (.var rfl) ea_nil)) ⟨c, withCut ds f, rfl, hc, withCut_ab hb, rfl⟩) (.rep .int (.var rfl) (by omega)) (.dat _) (.dat _) (by decide) (pI_ints _) ?_ ?_))))
    · have := pI_ints (List.replicate c 0)
      rw [List.map_replicate] at this
      exact this
    · rw [show (c : Int).toNat = c by omega]
      unfold evenB
      rw [decide_eq_true_eq]
      constructor
      · intro e
        rw [e, List.map_replicate]
      · intro e
        have e := PyData.list.inj e
        rw [← List.map_replicate] at e
        exact mapInt_inj e
  · exact .raise (N0 := []) (.is (.seqZ (need_no k hl (.var rfl) (.var rfl))) (by rw [List.append_nil]))
end
end Bk

set_option Elab.async false
set_option linter.all false
set_option maxRecDepth 100000
set_option maxHeartbeats 4000000
/-! D03: the laws' own even cuts, bad cuts, looks at cuts -/
namespace Bk
open PySem L2 Vx
section
variable {K : PySem.W.Frag} {E : XK} {M M1 M2 : List Cell} {s : List Sl} {ws : List W} {o : Res} {X : Xs} {ta tb : TE}
theorem idxOf_at {l : List Nat} {k x : Nat} (h : l[k]? = some x) (hn : x ∉ l.take k) : l.idxOf x = k := by
  have hk := (List.getElem?_eq_some_iff.mp h).1
  have e : l = l.take k ++ x :: l.drop (k + 1) := by
    have h2 : l.drop k = x :: l.drop (k + 1) := by
      rw [List.drop_eq_getElem_cons hk]
      congr 1
      rw [List.getElem?_eq_getElem hk] at h
      exact Option.some.inj h
    rw [← h2, List.take_append_drop]
  conv => lhs; rw [e]
  rw [List.idxOf_append, if_neg hn, List.idxOf_cons_self, List.length_take]
  omega
theorem celA {j : Nat} {c : Cell} {L : List Cell} (h : M[j]? = some c) : (M ++ L)[j]? = some c := by
  rw [List.getElem?_append_left (List.getElem?_eq_some_iff.mp h).1]
  exact h
def T_qring_by (M : List Cell) (ws : List W) (o : Res) : Prop := ∃ (ds : List Dt) (room : List Int) (j : Nat) (x : Int), ws = [dl (encDs ds), .cel j, di x] ∧ M[j]? = some (.lst (room.map di)) ∧ room.length = ds.length ∧ ds.length ≤ 1000 ∧ o = .ret (dl (nI (ringBy ds room x))) M
def v_qring_by (K : PySem.W.Frag) : TS := (tIfS (tTest (tOp rEq (tOp (rIx K) (tOp (rIx K) (tVar 0) (tOp (rIx K) (tVar 3) (tVar 6))) (tC (.int 0))) (tVar 5))) (tRet (tSl (rSlL K) (tVar 3) (tPart (tVar 6)) tNoPart)) tNext)
def u_qring_by (K : PySem.W.Frag) : TS := (tSeq (tAsg (tOp (rIx K) (tOp (rIx K) (tVar 0) (tOp (rIx K) (tVar 3) (tUn xNeg (tC (.int 1))))) (tC (.int 1))) (gName 5))
    (tSeq (tFor (iRng1 (tCons (tCB (rLenX K) (tCons (tVar 3) tNil)) tNil)) (gName 6) (v_qring_by K))
    (tSeq (tAsg (tLc (iRng1 (tCons (tCB (rLenX K) (tCons (tVar 0) tNil)) tNil)) (gName 8) (tAnd (tTest (tOp rEq (tOp (rIx K) (tOp (rIx K) (tVar 0) (tVar 8)) (tC (.int 0))) (tVar 5))) (tTest (tOp xGt (tOp (rIx K) (tVar 1) (tVar 8)) (tC (.int 0))))) (tVar 8) [8]) (gName 7))
    (tSeq (tIfS (tTest (tOp rEq (tCB (rLenX K) (tCons (tVar 7) tNil)) (tC (.int 0)))) (tRet (tLst tNil)) tNext)
    (tDrop (tBM K "list" rAppend (tVar 3) (tCons (tOp (rIx K) (tVar 7) (tOp xMod (tOp xAdd (tOp xDiv (tVar 2) (tC (.int 7))) (tOp xMul (tC (.int 3)) (tVar 4))) (tCB (rLenX K) (tCons (tVar 7) tNil)))) tNil)))))))
def t_qring_by (K : PySem.W.Frag) : TS := (tSeq (tIfS (tTest (tOp rEq (tCB (rLenX K) (tCons (tVar 0) tNil)) (tC (.int 0)))) (tRet (tLst tNil)) tNext)
    (tSeq (tAsg (tLst (tCons (tOp xMod (tVar 2) (tCB (rLenX K) (tCons (tVar 0) tNil))) tNil)) (gName 3))
    (tSeq (tFor (iRng1 (tCons (tC (.int 20)) tNil)) (gName 4) (u_qring_by K))
    (tRet (tLst tNil)))))
theorem natW_lst {l : List Nat} : LstOf (M ++ [.lst (l.map natW)]) (.cel (M.length + 0)) ((nI l).map .dat) := by
  rw [nI_dat]
  exact .cel (getL rfl)
theorem ringin_loop {ds : List Dt} {j at_ : Nat} {way : List Nat} {s2 s4 : Sl} (hw : ∀ n ∈ way, n < ds.length) : ∀ (m k : Nat) (a6 a7 : Sl), k + m = way.length → at_ ∉ (way.take k).map (dA ds) →
    ForL K E (gName 6) (v_qring_by K) ((List.range' k m).map natW) [some (dl (encDs ds)), some (.cel j), s2, some (.cel (M.length + 0)), s4, some (natW at_), a6, a7, none] (M ++ [.lst (way.map natW)])
      (if at_ ∈ way.map (dA ds) then .rt (dl (nI (way.drop ((way.map (dA ds)).idxOf at_)))) (M ++ [.lst (way.map natW)]) else .nx [some (dl (encDs ds)), some (.cel j), s2, some (.cel (M.length + 0)), s4, some (natW at_), none, none, none] (M ++ [.lst (way.map natW)]))
  | 0, k, a6, a7, hk, hn => by
    rw [List.take_of_length_le (by omega)] at hn
    rw [if_neg hn]
    exact ⟨_, .cons (.inr rfl) (.cons (.inr rfl) (.cons (.inr rfl) (.cons (.inr rfl) (.cons (.inr rfl) (.cons (.inr rfl) (.cons (.inl rfl) (.cons (.inl rfl) (.cons (.inr rfl) .nil)))))))), rfl⟩
  | m + 1, k, a6, a7, hk, hn => by
    have hlt : k < way.length := by omega
    have hget : way[k]? = some (way.getD k 0) := by rw [List.getD_eq_getElem?_getD, List.getElem?_eq_getElem hlt] <;> rfl
    have hm := hw _ (getD_memN hlt)
    have ht : EvB K (tTest (tOp rEq (tOp (rIx K) (tOp (rIx K) (tVar 0) (tOp (rIx K) (tVar 3) (tVar 6))) (tC (.int 0))) (tVar 5))) [some (dl (encDs ds)), some (.cel j), s2, some (.cel (M.length + 0)), s4, some (natW at_), some (natW k), a7, none] (M ++ [.lst (way.map natW)]) (decide (dA ds (way.getD k 0) = at_)) (M ++ [.lst (way.map natW)]) :=
      .test (.is (.eq (.debtA (n := way.getD k 0) (.var rfl) (.ixG (.var rfl) (.var rfl) (.lst (.cel (getL rfl)) (atI_map (atI_nat hget)))) hm) (.var rfl) (.int _ _)) (dbd (by omega)))
    rw [List.range'_succ, List.map_cons]
    by_cases e : dA ds (way.getD k 0) = at_
    · have hi : (way.map (dA ds)).idxOf at_ = k := idxOf_at (by rw [List.getElem?_map, hget, ← e] <;> rfl) (by rw [← List.map_take]; exact hn)
      rw [if_pos (by rw [← e]; exact List.mem_map.mpr ⟨_, getD_memN hlt, rfl⟩), hi]
      refine ⟨_, .name (.ite ht (fun _ => .ret (.is (.sl (ds := nI way) (.var rfl) (eo_some (.var rfl)) eo_none natW_lst) ?_)) fun z => absurd e (of_decide_eq_false z)), rfl⟩
      rw [cutW_drop (by rw [List.length_map]; omega)]
      unfold nI
      rw [List.map_drop]
    · refine ⟨_, .name (.ite ht (fun z => absurd (of_decide_eq_true z) e) fun _ => .next), ringin_loop hw m (k + 1) _ _ (by omega) ?_⟩
      rw [List.take_add_one, hget, List.map_append, List.mem_append]
      rintro (z | z)
      · exact hn z
      · have z : at_ ∈ [dA ds (way.getD k 0)] := z
        exact e (List.mem_singleton.mp z).symm
theorem ringout_loop {ds : List Dt} {room : List Int} {j : Nat} {x : Int} (hj : M[j]? = some (.lst (room.map di))) (hr : room.length = ds.length) (hl : ds.length ≤ 1000) : ∀ (n t : Nat) (way : List Nat) (a4 a5 a7 : Sl), (∀ m ∈ way, m < ds.length) → 0 < way.length → way.length + n ≤ 1000 →
    ∃ way', ForL K E (gName 4) (u_qring_by K) ((List.range' t n).map natW) [some (dl (encDs ds)), some (.cel j), some (di x), some (.cel (M.length + 0)), a4, a5, none, a7, none] (M ++ [.lst (way.map natW)]) (.rt (dl (nI (ringGo ds room x n t way))) (M ++ [.lst way'])) ∨
      (ringGo ds room x n t way = [] ∧ ForL K E (gName 4) (u_qring_by K) ((List.range' t n).map natW) [some (dl (encDs ds)), some (.cel j), some (di x), some (.cel (M.length + 0)), a4, a5, none, a7, none] (M ++ [.lst (way.map natW)]) (.nx [some (dl (encDs ds)), some (.cel j), some (di x), some (.cel (M.length + 0)), none, none, none, none, none] (M ++ [.lst way'])))
  | 0, t, way, a4, a5, a7, _, _, _ => ⟨way.map natW, .inr ⟨rfl, _, .cons (.inr rfl) (.cons (.inr rfl) (.cons (.inr rfl) (.cons (.inr rfl) (.cons (.inl rfl) (.cons (.inl rfl) (.cons (.inr rfl) (.cons (.inl rfl) (.cons (.inr rfl) .nil)))))))), rfl⟩⟩
  | n + 1, t, way, a4, a5, a7, hw, hp, hlen => by
    have hlast : way.length - 1 < way.length := by omega
    have hm := hw _ (getD_memN hlast)
    rw [List.range'_succ, List.map_cons]
    have e5 : Ev K (tOp (rIx K) (tOp (rIx K) (tVar 0) (tOp (rIx K) (tVar 3) (tUn xNeg (tC (.int 1))))) (tC (.int 1))) [some (dl (encDs ds)), some (.cel j), some (di x), some (.cel (M.length + 0)), some (natW t), a5, none, a7, none] (M ++ [.lst (way.map natW)]) (natW (dB ds (way.getD (way.length - 1) 0))) (M ++ [.lst (way.map natW)]) :=
      .debtB (n := way.getD (way.length - 1) 0) (.var rfl) (.ixG (.var rfl) (.neg .int) (.lst (.cel (getL rfl)) (atI_map (atI_neg1' hp)))) hm
    have inner := ringin_loop (K := K) (E := E) (M := M) (ds := ds) (j := j) (at_ := dB ds (way.getD (way.length - 1) 0)) (way := way) (s2 := some (di x)) (s4 := some (natW t)) hw way.length 0 none a7 (by omega) (by simp)
    rw [← List.range_eq_range'] at inner
    have lenE : (way.map natW).length = way.length := List.length_map ..
    unfold ringGo
    dsimp only
    by_cases e : dB ds (way.getD (way.length - 1) 0) ∈ way.map (dA ds)
    · rw [if_pos e] at inner ⊢
      refine ⟨way.map natW, .inl ⟨_, .name (.st e5 (.seqR (.forR (n := (way.length : Int)) (ea_cons (.is (.lenG (.var rfl) (.lst (.cel (getL rfl)))) (by rw [lenE])) ea_nil) (by omega) (by omega) inner))), rfl⟩⟩
    · rw [if_neg e] at inner ⊢
      have inner' : Big K E (tFor (iRng1 (tCons (tCB (rLenX K) (tCons (tVar 3) tNil)) tNil)) (gName 6) (v_qring_by K)) [some (dl (encDs ds)), some (.cel j), some (di x), some (.cel (M.length + 0)), some (natW t), some (natW (dB ds (way.getD (way.length - 1) 0))), none, a7, none] (M ++ [.lst (way.map natW)])
          (.nx [some (dl (encDs ds)), some (.cel j), some (di x), some (.cel (M.length + 0)), some (natW t), some (natW (dB ds (way.getD (way.length - 1) 0))), none, none, none] (M ++ [.lst (way.map natW)])) := .forR (n := (way.length : Int)) (ea_cons (.is (.lenG (.var rfl) (.lst (.cel (getL rfl)))) (by rw [lenE])) ea_nil) (by omega) (by omega) inner
      have hlater : Ev K (tLc (iRng1 (tCons (tCB (rLenX K) (tCons (tVar 0) tNil)) tNil)) (gName 8) (tAnd (tTest (tOp rEq (tOp (rIx K) (tOp (rIx K) (tVar 0) (tVar 8)) (tC (.int 0))) (tVar 5))) (tTest (tOp xGt (tOp (rIx K) (tVar 1) (tVar 8)) (tC (.int 0))))) (tVar 8) [8]) [some (dl (encDs ds)), some (.cel j), some (di x), some (.cel (M.length + 0)), some (natW t), some (natW (dB ds (way.getD (way.length - 1) 0))), none, none, none] (M ++ [.lst (way.map natW)])
          (dl (nI ((List.range ds.length).filter fun n => decide (dA ds n = dB ds (way.getD (way.length - 1) 0)) && decide (0 < room.getD n 0)))) (M ++ [.lst (way.map natW)]) :=
        .lcR (m := (ds.length : Int)) (f := fun n => .int (n : Int)) (ea_cons (.lenG (.var rfl) .map) ea_nil) (by omega) (fun n hn => .and (.test (.is (.eq (.debtA (.var rfl) (.var rfl) (by omega)) (.var rfl) (.int _ _)) (dbd (by omega)))) fun _ => .test (.gt (.ixG (.var rfl) (.var rfl) (.lst (.cel (celA hj)) (atI_map (atI_nat (getD_some (by omega)))))) .int)) fun n _ _ => .var rfl
      generalize hg : ((List.range ds.length).filter fun n => decide (dA ds n = dB ds (way.getD (way.length - 1) 0)) && decide (0 < room.getD n 0)) = later at hlater ⊢
      by_cases q : later.length = 0
      · rw [if_pos q]
        exact ⟨way.map natW, .inl ⟨_, .name (.st e5 (.seq inner' (.st hlater (.seqIte (b := true) (.test (.is (.eq (.lenG (.var rfl) .map) .int (.int _ _)) (by rw [decide_eq_true (by omega)]))) (fun _ => .seqR (.ret (.lst ea_nil (by decide)))) fun z => nomatch z)))), rfl⟩⟩
      · rw [if_neg q]
        have h0 := Int.emod_nonneg (x / 7 + 3 * (t : Int)) (show (later.length : Int) ≠ 0 by omega)
        have h1 := Int.emod_lt_of_pos (x / 7 + 3 * (t : Int)) (show (0 : Int) < later.length by omega)
        have hmem : later.getD ((x / 7 + 3 * (t : Int)) % (later.length : Int)).toNat 0 < ds.length := by
          have hsub : ∀ m ∈ later, m < ds.length := by
            intro m hm
            rw [← hg] at hm
            exact List.mem_range.mp (List.mem_filter.mp hm).1
          exact hsub _ (getD_memN (by omega))
        obtain ⟨way', ih⟩ := ringout_loop hj hr hl n (t + 1) (way ++ [later.getD ((x / 7 + 3 * (t : Int)) % (later.length : Int)).toNat 0]) (some (natW t)) (some (natW (dB ds (way.getD (way.length - 1) 0)))) (some (dl (nI later))) (fun m hm => by
          rcases List.mem_append.mp hm with hm | hm
          · exact hw m hm
          · rw [List.mem_singleton.mp hm]
            exact hmem) (by rw [List.length_append, List.length_singleton]; omega) (by rw [List.length_append, List.length_singleton]; omega)
        rw [List.map_append] at ih
        have turn : BigG K E (gName 4) (u_qring_by K) (natW t) [some (dl (encDs ds)), some (.cel j), some (di x), some (.cel (M.length + 0)), a4, a5, none, a7, none] (M ++ [.lst (way.map natW)])
            (.nx [some (dl (encDs ds)), some (.cel j), some (di x), some (.cel (M.length + 0)), some (natW t), some (natW (dB ds (way.getD (way.length - 1) 0))), none, some (dl (nI later)), none] (M ++ [.lst (way.map natW ++ [natW (later.getD ((x / 7 + 3 * (t : Int)) % (later.length : Int)).toNat 0)])])) :=
          .name (.st e5 (.seq inner' (.st hlater (.seqIte (b := false) (.test (.is (.eq (.lenG (.var rfl) .map) .int (.int _ _)) (by rw [decide_eq_false (by omega)]))) (fun z => nomatch z) fun _ => .seqN (.appendL (k := 0) (.var rfl) (.numI (k := ((x / 7 + 3 * (t : Int)) % (later.length : Int)).toNat) (.var rfl) (.mod (.add (.div (.var rfl) .int (by decide)) (.mul .int (.var rfl) (mulL (by omega)))) (.lenG (.var rfl) .map) (by omega)) (by omega) (by omega)) rfl (by rw [lenE]; omega))))))
        rcases ih with ih | ⟨i1, i2⟩
        · exact ⟨way', .inl ⟨_, turn, ih⟩⟩
        · exact ⟨way', .inr ⟨i1, _, turn, i2⟩⟩
where atI_neg1' {l : List Nat} (h : 0 < l.length) : atI l (-1) = some (l.getD (l.length - 1) 0) := by
        have e : ixN l.length (-1) = some (l.length - 1) := by
          unfold ixN
          simp
          omega
        unfold atI
        rw [e]
        show l[l.length - 1]? = _
        rw [List.getD_eq_getElem?_getD, List.getElem?_eq_getElem (by omega)] <;> rfl
theorem big_qring_by (h : T_qring_by M ws o) : BigF K E (t_qring_by K) (args 9 ws) M o := by
  obtain ⟨ds, room, j, x, rfl, hj, hr, hl, rfl⟩ := h
  unfold ringBy
  by_cases q : ds.length = 0
  · rw [if_pos q]
    exact .rt (.seqIte (b := true) (.test (.is (.eq (.lenG (.var rfl) .map) .int (.int _ _)) (by rw [decide_eq_true (by omega)]))) (fun _ => .seqR (.ret (.lst ea_nil (by decide)))) fun z => nomatch z)
  · rw [if_neg q]
    have h0 := Int.emod_nonneg x (show (ds.length : Int) ≠ 0 by omega)
    have h1 := Int.emod_lt_of_pos x (show (0 : Int) < ds.length by omega)
    obtain ⟨way', ih⟩ := ringout_loop (K := K) (E := E) hj hr hl (x := x) 20 0 [(x % (ds.length : Int)).toNat] none none none (fun m hm => by rw [List.mem_singleton.mp hm]; omega) (by simp) (by simp)
    have pre : ∀ {o : Out}, Big K E (tSeq (tFor (iRng1 (tCons (tC (.int 20)) tNil)) (gName 4) (u_qring_by K)) (tRet (tLst tNil))) [some (dl (encDs ds)), some (.cel j), some (di x), some (.cel (M.length + 0)), none, none, none, none, none] (M ++ [.lst [natW (x % (ds.length : Int)).toNat]]) o → Big K E (t_qring_by K) (args 9 [dl (encDs ds), .cel j, di x]) M o := fun p =>
      .seqIte (b := false) (.test (.is (.eq (.lenG (.var rfl) .map) .int (.int _ _)) (by rw [decide_eq_false (by omega)]))) (fun z => nomatch z) fun _ => .seqN (.seq (.asg (.lstC (ea_cons (.is (w1 := natW (x % (ds.length : Int)).toNat) (.mod (.var rfl) (.lenG (.var rfl) .map) (by omega)) (by unfold natW; rw [Int.toNat_of_nonneg h0])) ea_nil) (Nat.le_of_ble_eq_true rfl))) p)
    rcases ih with ih | ⟨i1, i2⟩
    · exact .dat (N0 := [.lst way']) (pre (.seqR (.forR (n := 20) (ea_cons .int ea_nil) (by omega) (by omega) ih)))
    · rw [i1]
      exact .dat (N0 := [.lst way']) (pre (.seq (.forR (n := 20) (ea_cons .int ea_nil) (by omega) (by omega) i2) (.ret (.lst ea_nil (by decide)))))
def T_qeven_cut (M : List Cell) (ws : List W) (o : Res) : Prop := ∃ (ds : List Dt) (xs : List Int), ws = [dl (encDs ds), dl (iI xs)] ∧ ds.length ≤ 1000 ∧ o = .ret (dl (iI (evenCut ds xs))) M
def v_qeven_cut (K : PySem.W.Frag) : TS := (tAsg (tOp xSub (tOp (rIx K) (tVar 2) (tVar 5)) (tVar 7)) (gSub (tVar 2) (tVar 5) rSetL))
def u_qeven_cut (K : PySem.W.Frag) : TS := (tSeq (tAsg (tCall (spOf K T_qring_by) [] E0 (tCons (tVar 0) (tCons (tVar 2) (tCons (tVar 3) tNil)))) (gName 4))
    (tIfS (tTest (tOp xGt (tCB (rLenX K) (tCons (tVar 4) tNil)) (tC (.int 0)))) (tSeq (tAsg (tCB (rMin K) (tCons (tLc (iList K (tVar 4)) (gName 5) tYes (tOp (rIx K) (tVar 2) (tVar 5)) [5]) tNil)) (gName 6))
    (tSeq (tAsg (tVar 6) (gName 7))
    (tSeq (tIfS (tAnd (tTest (tOp rEq (tOp xMod (tOp xDiv (tVar 3) (tC (.int 40))) (tC (.int 3))) (tC (.int 1)))) (tTest (tOp xGt (tVar 6) (tC (.int 0))))) (tAsg (tOp xAdd (tC (.int 1)) (tOp xMod (tOp xDiv (tVar 3) (tC (.int 120))) (tVar 6))) (gName 7)) tNext)
    (tFor (iList K (tVar 4)) (gName 5) (v_qeven_cut K))))) tNext))
def t_qeven_cut (K : PySem.W.Frag) : TS := (tSeq (tAsg (tLc (iList K (tVar 0)) (gName 8) tYes (tOp (rIx K) (tVar 8) (tC (.int 2))) [8]) (gName 2))
    (tSeq (tFor (iList K (tVar 1)) (gName 3) (u_qeven_cut K))
    (tRet (tLc (iRng1 (tCons (tCB (rLenX K) (tCons (tVar 0) tNil)) tNil)) (gName 5) tYes (tOp xSub (tOp (rIx K) (tOp (rIx K) (tVar 0) (tVar 5)) (tC (.int 2))) (tOp (rIx K) (tVar 2) (tVar 5))) [5]))))
theorem lessin_loop {s0 s1 s3 s4 s6 s8 : Sl} {k : Int} : ∀ (r : List Nat) (l : List Int) (a5 : Sl), (∀ n ∈ r, n < l.length) →
    ForL K E (gName 5) (v_qeven_cut K) (r.map natW) [s0, s1, some (.cel (M.length + 0)), s3, s4, a5, s6, some (di k), s8] (M ++ [.lst (l.map di)])
      (.nx [s0, s1, some (.cel (M.length + 0)), s3, s4, none, s6, some (di k), s8] (M ++ [.lst ((r.foldl (fun l n => lessAt l k n) l).map di)]))
  | [], l, a5, _ => ⟨_, .cons (.inr rfl) (.cons (.inr rfl) (.cons (.inr rfl) (.cons (.inr rfl) (.cons (.inr rfl) (.cons (.inl rfl) (.cons (.inr rfl) (.cons (.inr rfl) (.cons (.inr rfl) .nil)))))))), rfl⟩
  | n :: r, l, a5, h => by
    have hn := h n List.mem_cons_self
    refine ⟨_, .name (.setItemL (k := 0) (w := di (l.getD n 0 - k)) (i := (n : Int)) (n := n) (.sub (.ixG (.var rfl) (.var rfl) (.lst (.cel (getL rfl)) (atI_map (atI_nat (getD_some hn))))) (.var rfl)) (.var rfl) (.var rfl) rfl ?_), ?_⟩
    · rw [List.length_map]
      exact ixN_nat hn
    · show ForL _ _ _ _ _ _ (M ++ [.lst ((l.map di).set n (di _))]) _
      rw [set_map_di]
      exact lessin_loop r (lessAt l k n) _ fun m hm => by rw [lessAt_len]; exact h m (List.mem_cons_of_mem _ hm)
theorem ringBy_lt {ds : List Dt} {room : List Int} {x : Int} : ∀ n ∈ ringBy ds room x, n < ds.length := by
  intro n hn
  rcases ringBy_ok ds room x with e | R
  · rw [e] at hn
    cases hn
  · exact List.mem_range.mp (R.mem n hn)
theorem ringGo_len {ds : List Dt} {room : List Int} {x : Int} : ∀ (n t : Nat) (way : List Nat), (ringGo ds room x n t way).length ≤ way.length + n
  | 0, _, _ => Nat.zero_le _
  | n + 1, t, way => by
    unfold ringGo
    dsimp only
    split
    · rw [List.length_drop]
      omega
    · split
      · exact Nat.zero_le _
      · have := ringGo_len (ds := ds) (room := room) (x := x) n (t + 1) (way ++ [((List.range ds.length).filter fun n => decide (dA ds n = dB ds (way.getD (way.length - 1) 0)) && decide (0 < room.getD n 0)).getD ((x / 7 + 3 * (t : Int)) % (((List.range ds.length).filter fun n => decide (dA ds n = dB ds (way.getD (way.length - 1) 0)) && decide (0 < room.getD n 0)).length : Int)).toNat 0])
        rw [List.length_append, List.length_singleton] at this
        omega
theorem ringBy_len {ds : List Dt} {room : List Int} {x : Int} : (ringBy ds room x).length ≤ 21 := by
  unfold ringBy
  split
  · exact Nat.zero_le _
  · have := ringGo_len (ds := ds) (room := room) (x := x) 20 0 [(x % (ds.length : Int)).toNat]
    rw [List.length_singleton] at this
    omega
theorem many_ite {x most : Int} : di (cutMany x most) = if (decide (x / 40 % 3 = 1) && decide (0 < most)) = true then di (1 + x / 120 % most) else di most := by
  unfold cutMany
  by_cases h : (decide (x / 40 % 3 = 1) && decide (0 < most)) = true
  · rw [if_pos h, if_pos (by rw [Bool.and_eq_true] at h; exact h)]
  · rw [if_neg h, if_neg (fun z => h (by rw [Bool.and_eq_true]; exact z))]
theorem cutStep_len {ds : List Dt} {l : List Int} {x : Int} (h : l.length = ds.length) : (cutStep ds l x).length = ds.length := by
  unfold cutStep
  dsimp only
  split
  · rw [(less_fold _ l fun n hn => by rw [h]; exact ringBy_lt n hn).1, h]
  · exact h
theorem evencut_loop {ds : List Dt} {D1 : Sl} (hl : ds.length ≤ 1000) : ∀ (xs : List Int) (l : List Int) (a3 a4 a6 a7 : Sl), l.length = ds.length →
    ForL K E (gName 3) (u_qeven_cut K) (xs.map di) [some (dl (encDs ds)), D1, some (.cel (M.length + 0)), a3, a4, none, a6, a7, none] (M ++ [.lst (l.map di)])
      (.nx [some (dl (encDs ds)), D1, some (.cel (M.length + 0)), none, none, none, none, none, none] (M ++ [.lst ((xs.foldl (cutStep ds) l).map di)]))
  | [], l, a3, a4, a6, a7, _ => ⟨_, .cons (.inr rfl) (.cons (.inr rfl) (.cons (.inr rfl) (.cons (.inl rfl) (.cons (.inl rfl) (.cons (.inr rfl) (.cons (.inl rfl) (.cons (.inl rfl) (.cons (.inr rfl) .nil)))))))), rfl⟩
  | x :: xs, l, a3, a4, a6, a7, h => by
    have hr : ∀ n ∈ ringBy ds l x, n < l.length := fun n hn => by rw [h]; exact ringBy_lt n hn
    have hrl : (ringBy ds l x).length ≤ 21 := ringBy_len
    have hcall : ∀ {a4 a6 a7 : Sl}, Ev K (tCall (spOf K T_qring_by) [] E0 (tCons (tVar 0) (tCons (tVar 2) (tCons (tVar 3) tNil)))) [some (dl (encDs ds)), D1, some (.cel (M.length + 0)), some (di x), a4, none, a6, a7, none] (M ++ [.lst (l.map di)]) (dl (nI (ringBy ds l x))) (M ++ [.lst (l.map di)]) := fun {a4 a6 a7} =>
      .call (ea_cons (.var rfl) (ea_cons (.var rfl) (ea_cons (.var rfl) ea_nil))) ⟨ds, l, _, x, rfl, getL rfl, h, hl, rfl⟩
    have ih := fun a3 a4 a6 a7 => evencut_loop (D1 := D1) hl xs (cutStep ds l x) a3 a4 a6 a7 (cutStep_len h)
    rw [List.foldl_cons]
    by_cases q : 0 < (ringBy ds l x).length
    · have est : cutStep ds l x = (ringBy ds l x).foldl (fun y n => lessAt y (cutMany x (least ((ringBy ds l x).map fun n => l.getD n 0))) n) l := by
        unfold cutStep
        dsimp only
        rw [if_pos q]
      obtain ⟨m1, m2⟩ := least_ok (l := (ringBy ds l x).map fun n => l.getD n 0) (by rw [List.length_map]; exact q)
      generalize ringBy ds l x = r at hcall hr hrl q m1 m2 est
      generalize least (r.map fun n => l.getD n 0) = most at m1 m2 est
      rw [est] at ih ⊢
      refine ⟨.nx [some (dl (encDs ds)), D1, some (.cel (M.length + 0)), some (di x), some (dl (nI r)), none, some (di most), some (di (cutMany x most)), none] (M ++ [.lst ((r.foldl (fun y n => lessAt y (cutMany x most) n) l).map di)]), .name (.st hcall (.ite (b := true) (.test (.is (.gt (.lenG (.var rfl) .map) .int) (by rw [decide_eq_true (by omega)]))) (fun _ => .st (w := di most) (.minL (w := dl (iI (r.map fun n => l.getD n 0))) (ns := r.map fun n => l.getD n 0) ?_ lst_iI m1 m2) (.st (.var rfl) (.stIf (b := decide (x / 40 % 3 = 1) && decide (0 < most)) (w1 := di (1 + x / 120 % most)) (w := di (cutMany x most)) (.and (.test (.eq (.mod (.div (.var rfl) .int (by decide)) .int (by decide)) .int (.int _ _))) fun _ => .test (.gt (.var rfl) .int)) (fun z => .add .int (.mod (.div (.var rfl) .int (by decide)) (.var rfl) ?_)) rfl many_ite (.forL (.var rfl) ?_)))) fun z => nomatch z)), ?_⟩
      · unfold iI
        rw [List.map_map]
        exact .lcL1 (enc := natW) (f := fun n => .int (l.getD n 0)) (.var rfl) lst_nI (by omega) fun n hn => .ixG (.var rfl) (.var rfl) (.lst (.cel (getL rfl)) (atI_map (atI_nat (getD_some (hr n hn)))))
      · rw [Bool.and_eq_true, decide_eq_true_eq, decide_eq_true_eq] at z
        exact z.2
      · rw [nI_dat]
        exact lessin_loop r l none hr
      · exact ih _ _ _ _
    · have est : cutStep ds l x = l := by
        unfold cutStep
        dsimp only
        rw [if_neg q]
      rw [est] at ih ⊢
      exact ⟨_, .name (.st hcall (.ite (b := false) (.test (.is (.gt (.lenG (.var rfl) .map) .int) (by rw [decide_eq_false (by omega)]))) (fun z => nomatch z) fun _ => .next)), ih _ _ _ _⟩
theorem big_qeven_cut (h : T_qeven_cut M ws o) : BigF K E (t_qeven_cut K) (args 9 ws) M o := by
  obtain ⟨ds, xs, rfl, hl, rfl⟩ := h
  refine .dat (N0 := [.lst ((rooms ds xs).map di)]) (.seq (s1 := [some (dl (encDs ds)), some (dl (iI xs)), some (.cel (M.length + 0)), none, none, none, none, none, none]) (M1 := M ++ [.lst ((ds.map (·.m)).map di)]) (.asg ?_) (.seq (s1 := [some (dl (encDs ds)), some (dl (iI xs)), some (.cel (M.length + 0)), none, none, none, none, none, none]) (M1 := M ++ [.lst ((rooms ds xs).map di)]) (.forL (.var rfl) ?_) (.ret ?_)))
  · have q := Ev.lcLC1 (K := K) (M := M) (s := args 9 [dl (encDs ds), dl (iI xs)]) (tl := tVar 0) (te := tOp (rIx K) (tVar 8) (tC (.int 2))) (n := 8) (xs := ds) (enc := fun d => .dat (encD d)) (f := fun d => .int d.m) (.var rfl) lst_enc (by omega) fun d hd => .ixG (.var rfl) .int (.tup rfl)
    rw [List.map_map] at q
    rw [List.map_map]
    exact q
  · rw [map_dat_ints]
    exact evencut_loop hl xs _ _ _ _ _ (by rw [List.length_map])
  · have hlen : (rooms ds xs).length = ds.length := by
      have : ∀ (xs l : List Int), l.length = ds.length → (xs.foldl (cutStep ds) l).length = ds.length := by
        intro xs
        induction xs with
        | nil => exact fun l h => h
        | cons x xs ih => exact fun l h => ih _ (cutStep_len h)
      exact this xs _ (List.length_map ..)
    have q := Ev.lcR1 (K := K) (M := M ++ [.lst ((rooms ds xs).map di)]) (s := [some (dl (encDs ds)), some (dl (iI xs)), some (.cel (M.length + 0)), none, none, none, none, none, none]) (n := 5) (m := (ds.length : Int)) (g := fun n => .int (dM ds n - (rooms ds xs).getD n 0)) (trA := tCons (tCB (rLenX K) (tCons (tVar 0) tNil)) tNil) (te := tOp xSub (tOp (rIx K) (tOp (rIx K) (tVar 0) (tVar 5)) (tC (.int 2))) (tOp (rIx K) (tVar 2) (tVar 5)))
      (ea_cons (.lenG (.var rfl) .map) ea_nil) (by omega) fun n hn => .sub (.debtM (.var rfl) (.var rfl) (by omega)) (.ixG (.var rfl) (.var rfl) (.lst (.cel (getL rfl)) (atI_map (atI_nat (getD_some (by omega))))))
    unfold evenCut iI
    rw [List.map_map]
    exact q
end
end Bk

set_option Elab.async false
set_option linter.all false
set_option maxRecDepth 100000
set_option maxHeartbeats 4000000
/-! E03: no cuts, any cuts, the looks at them -/
namespace Bk
open PySem L2 Vx HotP
local macro_rules | `(tactic| walk_at "ev") => `(tactic| repeat' first
  | exact Ev.var rfl | exact Ev.int | exact Ev.bl | exact Ev.str | exact Ev.non | exact ea_nil
  | apply Ev.add | apply Ev.sub | apply Ev.lt | apply Ev.le | apply Ev.gt | apply Ev.ge
  | apply Ev.mul | apply Ev.mod | apply Ev.div | apply Ev.pow | apply Ev.neg
  | apply Ev.ixG | apply Ev.eq | apply Ev.ne | apply Ev.lenG | apply ed_cons
  | apply ea_cons | apply Ev.tup | apply Ev.lst | apply EvB.val | apply EvB.test | apply EvB.not
  | apply Ev.isT | apply Ev.not | exact Nat.le_of_ble_eq_true rfl | exact EqOf.int _ _ | exact EqOf.bl _ _ | exact EqOf.str _ _
  | exact IxOf.tup rfl | exact LenOf.map | exact LenOf.dl | exact LenOf.tup _ | exact LstOf.dat _ | exact LstOf.scr _ | exact LstOf.cel rfl | exact LstOf.cel (getL rfl))
/-! what is no cut -/
def oddC (m : Int) : List PyData := [.int (-1), .int (m + 1), .bool true, .none, .str "0", .int (-m - 1), .int (m * 2 + 1), .list [.int 0], .bool false]
def badCut (ds : List Dt) (f : List Int) (x : Int) : PyData :=
  if 6 < x % 9 then [PyData.tuple (iI f), .none].getD (x % 9 - 7).toNat .none
  else if ds.length = 0 ∨ x % 4 = 0 then .list (iI f ++ [.int 0])
  else if x % 4 = 1 then .list ((iI f).drop 1)
  else .list ((iI f).take (x / 4 % (ds.length : Int)).toNat ++ [(oddC (dM ds (x / 4 % (ds.length : Int)).toNat)).getD (x / 240 % 9).toNat .none] ++ (iI f).drop ((x / 4 % (ds.length : Int)).toNat + 1))
theorem oddC_no {m : Int} (hm : 0 ≤ m) : ∀ d ∈ oddC m, wh 0 m d = false := by
  intro d hd
  unfold oddC at hd
  simp only [List.mem_cons, List.not_mem_nil, or_false] at hd
  rcases hd with rfl | rfl | rfl | rfl | rfl | rfl | rfl | rfl | rfl <;> first | rfl | (rw [whI]; exact dec_f (by omega))
theorem splice_get {l : List PyData} {n : Nat} {d : PyData} (hn : n < l.length) : (l.take n ++ [d] ++ l.drop (n + 1)).getD n .none = d := by
  rw [List.getD_eq_getElem?_getD, List.getElem?_append_left (by rw [List.length_append, List.length_take, List.length_singleton]; omega), List.getElem?_append_right (by rw [List.length_take]; omega), List.length_take, show n - min n l.length = 0 by omega] <;> rfl
theorem badCut_no {ds : List Dt} {f : List Int} {x : Int} (k : CutOk ds f) : isCut ds (badCut ds f x) = false := by
  have hl : (iI f).length = ds.length := by rw [List.length_map]; exact k.len
  unfold badCut
  split
  · rename_i h
    have q : x % 9 - 7 = 0 ∨ x % 9 - 7 = 1 := by omega
    rcases q with q | q <;> rw [q] <;> rfl
  · split
    · rw [isCut_list, List.length_append, hl, decide_eq_false (by simp), Bool.false_and]
    · rename_i h
      split
      · rw [isCut_list, List.length_drop, hl, decide_eq_false (by omega), Bool.false_and]
      · have h0 := Int.emod_nonneg (x / 4) (show (ds.length : Int) ≠ 0 by omega)
        have h1 := Int.emod_lt_of_pos (x / 4) (show (0 : Int) < ds.length by omega)
        have hn : (x / 4 % (ds.length : Int)).toNat < ds.length := by omega
        generalize (x / 4 % (ds.length : Int)).toNat = n at hn ⊢
        rw [isCut_list, Bool.and_eq_false_iff]
        right
        rw [List.all_eq_false]
        refine ⟨n, List.mem_range.mpr hn, ?_⟩
        rw [splice_get (by rw [hl]; exact hn), oddC_no (Int.le_trans (k.lo n hn) (k.hi n hn)) _ (mem_getD_of (by show _ < 9; omega))]
        decide
/-! any cut -/
def anyMix (x : Int) (k : Nat) : Int := (x % 1000000007 + 6007 * (k : Int) + 5) * 48271 % 2147483647
def anyOne (m g : Int) : Int := if decide (g % 4 < 2) = true then m * (g % 4) else g / 4 % (m + 1)
def anyCut (ds : List Dt) (x : Int) : List Int := (List.range ds.length).map fun k => anyOne (dM ds k) (anyMix x k)
theorem anyOne_ok {m g : Int} (hm : 0 ≤ m) : 0 ≤ anyOne m g ∧ anyOne m g ≤ m := by
  unfold anyOne
  split
  · rename_i h
    have h := of_decide_eq_true h
    have q : g % 4 = 0 ∨ g % 4 = 1 := by omega
    rcases q with q | q <;> rw [q] <;> omega
  · have h0 := Int.emod_nonneg (g / 4) (show m + 1 ≠ 0 by omega)
    have h1 := Int.emod_lt_of_pos (g / 4) (show (0 : Int) < m + 1 by omega)
    omega
theorem anyCut_ok {ds : List Dt} {x : Int} (hm : ∀ d ∈ ds, 0 ≤ d.m) : CutOk ds (anyCut ds x) := by
  have hg : ∀ n, n < ds.length → (anyCut ds x).getD n 0 = anyOne (dM ds n) (anyMix x n) := fun n hn => getD_map_range hn
  refine ⟨by unfold anyCut; rw [List.length_map, List.length_range], fun n hn => ?_, fun n hn => ?_⟩
  · rw [hg n hn]
    exact (anyOne_ok (hm _ (getD_mem hn))).1
  · rw [hg n hn]
    exact (anyOne_ok (hm _ (getD_mem hn))).2
section
variable {K : PySem.W.Frag} {E : XK} {M M1 M2 : List Cell} {s : List Sl} {ws : List W} {o : Res} {X : Xs} {ta tb : TE}
def T_qtruth (M : List Cell) (ws : List W) (o : Res) : Prop := ∃ b : Bool, ws = [db b, db b] ∧ o = .ret (db true) M
def t_qtruth (K : PySem.W.Frag) : TS := (tRet (tAndV (tCB (rIsi K) (tCons (tVar 0) (tCons (tC (.ty "bool")) tNil))) (tOp (rEqD K) (tVar 0) (tVar 1))))
theorem big_qtruth (h : T_qtruth M ws o) : BigF K E (t_qtruth K) (args 2 ws) M o := by
  obtain ⟨b, rfl, rfl⟩ := h
  exact .rt (.ret (.is (w := db (true && true)) (.and (.isT (.var rfl) (kit_bool _)) fun _ => .eqSelf 0 (.var rfl) (.var rfl) (.dat _) (.dat _) (by decide) rfl) rfl))
def T_qis_even (M : List Cell) (ws : List W) (o : Res) : Prop := ∃ (c : Nat) (ds : List Dt) (f : List Int), ws = [di c, dl (encDs ds), dl (iI f)] ∧ c ≤ 1000 ∧ ds.length ≤ 1000 ∧ f.length = ds.length ∧ (∀ d ∈ ds, d.a < c ∧ d.b < c) ∧ o = .ret (db (evenB c ds f)) M
def t_qis_even (K : PySem.W.Frag) : TS := (tSeq (tAsg (tLc (iRng1 (tCons (tCB (rLenX K) (tCons (tVar 1) tNil)) tNil)) (gName 4) tYes (tTup (tCons (tOp (rIx K) (tOp (rIx K) (tVar 1) (tVar 4)) (tC (.int 0))) (tCons (tOp (rIx K) (tOp (rIx K) (tVar 1) (tVar 4)) (tC (.int 1))) (tCons (tOp (rIx K) (tVar 2) (tVar 4)) tNil)))) [4]) (gName 3))
    (tRet (tOp (rEqD K) (tCall (spOf K T_qbalances) [] E0 (tCons (tVar 0) (tCons (tVar 3) tNil))) (tLc (iRng1 (tCons (tVar 0) tNil)) (gName 5) tYes (tC (.int 0)) [5]))))
theorem big_qis_even (h : T_qis_even M ws o) : BigF K E (t_qis_even K) (args 6 ws) M o := by
  obtain ⟨c, ds, f, rfl, hc, hl, hf, hb, rfl⟩ := h
  refine .rt (.st (w := dl (encDs (withCut ds f))) (rows_ev hf hl (fun n => .var rfl) (.var rfl) (fun n => .var rfl) (Nat.le_of_ble_eq_true rfl)) (.ret (.eqP 1 (.call (ea_cons (.var rfl) (ea_cons (.var rfl) ea_nil)) ⟨c, withCut ds f, rfl, hc, withCut_ab hb, rfl⟩) (.lcR1 (m := (c : Int)) (g := fun _ => .int 0) (ea_cons (.var rfl) ea_nil) (by omega) fun _ _ => .int) (.dat _) (.dat _) (by decide) (pI_ints _) (pI_map fun _ _ => rfl) ?_)))
  rw [show (c : Int).toNat = c by omega, map_const_range]
  unfold evenB
  rw [decide_eq_true_eq]
  constructor
  · intro e
    rw [e, List.map_replicate]
  · intro e
    have e := PyData.list.inj e
    rw [← List.map_replicate] at e
    exact mapInt_inj e
def T_qbad_cut (M : List Cell) (ws : List W) (o : Res) : Prop := ∃ (ds : List Dt) (f : List Int) (x : Int), ws = [dl (encDs ds), dl (iI f), di x] ∧ f.length = ds.length ∧ ds.length ≤ 100 ∧ o = .ret (.dat (badCut ds f x)) M
def t_qbad_cut (K : PySem.W.Frag) : TS := (tSeq (tIfS (tTest (tOp xGt (tOp xMod (tVar 2) (tC (.int 9))) (tC (.int 6)))) (tRet (tOp (rIx K) (tLst (tCons (tCB (rTupX K) (tCons (tVar 1) tNil)) (tCons (tC .non) tNil))) (tOp xSub (tOp xMod (tVar 2) (tC (.int 9))) (tC (.int 7))))) tNext)
    (tSeq (tIfS (tOr (tTest (tOp rEq (tCB (rLenX K) (tCons (tVar 0) tNil)) (tC (.int 0)))) (tTest (tOp rEq (tOp xMod (tVar 2) (tC (.int 4))) (tC (.int 0))))) (tRet (tOp rCat (tVar 1) (tLst (tCons (tC (.int 0)) tNil)))) tNext)
    (tSeq (tIfS (tTest (tOp rEq (tOp xMod (tVar 2) (tC (.int 4))) (tC (.int 1)))) (tRet (tSl (rSlL K) (tVar 1) (tPart (tC (.int 1))) tNoPart)) tNext)
    (tSeq (tAsg (tOp xMod (tOp xDiv (tVar 2) (tC (.int 4))) (tCB (rLenX K) (tCons (tVar 0) tNil))) (gName 3))
    (tSeq (tAsg (tOp (rIx K) (tOp (rIx K) (tVar 0) (tVar 3)) (tC (.int 2))) (gName 4))
    (tSeq (tAsg (tLst (tCons (tUn xNeg (tC (.int 1))) (tCons (tOp xAdd (tVar 4) (tC (.int 1))) (tCons (tC (.bl true)) (tCons (tC .non) (tCons (tC (.str "0")) (tCons (tOp xSub (tUn xNeg (tVar 4)) (tC (.int 1))) (tCons (tOp xAdd (tOp xMul (tVar 4) (tC (.int 2))) (tC (.int 1))) (tCons (tLst (tCons (tC (.int 0)) tNil)) (tCons (tC (.bl false)) tNil)))))))))) (gName 5))
    (tRet (tOp rCat (tOp rCat (tSl (rSlL K) (tVar 1) tNoPart (tPart (tVar 3))) (tLst (tCons (tOp (rIx K) (tVar 5) (tOp xMod (tOp xDiv (tVar 2) (tC (.int 240))) (tC (.int 9)))) tNil))) (tSl (rSlL K) (tVar 1) (tPart (tOp xAdd (tVar 3) (tC (.int 1)))) tNoPart)))))))))
theorem cutW_take {α : Type} {xs : List α} {k : Nat} (h : k ≤ xs.length) : cutW xs none (some (k : Int)) = xs.take k := by
  unfold cutW
  rw [HT.sIx_nat, HT.sIx_none, Nat.min_eq_left h, List.drop_zero, Nat.sub_zero]
theorem cutW_dropS {α : Type} {xs : List α} {k : Nat} (h : k + 1 ≤ xs.length) : cutW xs (some ((k : Int) + 1)) none = xs.drop (k + 1) := by
  rw [show ((k : Int) + 1) = ((k + 1 : Nat) : Int) by omega]
  exact cutW_drop h
theorem big_qbad_cut (h : T_qbad_cut M ws o) : BigF K E (t_qbad_cut K) (args 6 ws) M o := by
  obtain ⟨ds, f, x, rfl, hf, hl, rfl⟩ := h
  have hlI : (iI f).length = ds.length := by rw [List.length_map]; exact hf
  unfold badCut
  have t1 : EvB K (tTest (tOp xGt (tOp xMod (tVar 2) (tC (.int 9))) (tC (.int 6)))) (args 6 [dl (encDs ds), dl (iI f), di x]) M (decide (6 < x % 9)) M := .test (.gt (.mod (.var rfl) .int (by decide)) .int)
  have t2 : EvB K (tOr (tTest (tOp rEq (tCB (rLenX K) (tCons (tVar 0) tNil)) (tC (.int 0)))) (tTest (tOp rEq (tOp xMod (tVar 2) (tC (.int 4))) (tC (.int 0))))) (args 6 [dl (encDs ds), dl (iI f), di x]) M (decide ((ds.length : Int) = 0) || decide (x % 4 = 0)) M := .or (.test (.eq (.lenG (.var rfl) .map) .int (.int _ _))) fun _ => .test (.eq (.mod (.var rfl) .int (by decide)) .int (.int _ _))
  have t3 : EvB K (tTest (tOp rEq (tOp xMod (tVar 2) (tC (.int 4))) (tC (.int 1)))) (args 6 [dl (encDs ds), dl (iI f), di x]) M (decide (x % 4 = 1)) M := .test (.eq (.mod (.var rfl) .int (by decide)) .int (.int _ _))
  by_cases q1 : 6 < x % 9
  · rw [if_pos q1]
    exact .rt (.seqIte t1 (fun _ => .seqR (.ret (.ixG (w := dl [.tuple (iI f), .none]) (i := x % 9 - 7) (.lst (ed_cons (.tupL (.var rfl)) (ed_cons .non ea_nil)) (Nat.le_of_ble_eq_true rfl)) (.sub (.mod (.var rfl) .int (by decide)) .int) (.dat (atI_getD (by omega) (by show _ < (2 : Int); omega)))))) fun z => absurd q1 (of_decide_eq_false z))
  rw [if_neg q1]
  by_cases q2 : ds.length = 0 ∨ x % 4 = 0
  · rw [if_pos q2]
    refine .rt (.seqIte t1 (fun z => absurd (of_decide_eq_true z) q1) fun _ => .seqN (.seqIte t2 (fun _ => .seqR (.ret (.cat (.var rfl) (.lst (ed_cons .int ea_nil) (Nat.le_of_ble_eq_true rfl)) ?_))) fun z => ?_))
    · rw [hlI]
      show _ + 1 ≤ 1000
      omega
    · rw [Bool.or_eq_false_iff, decide_eq_false_iff_not, decide_eq_false_iff_not] at z
      omega
  have t2' : (decide ((ds.length : Int) = 0) || decide (x % 4 = 0)) = false := by rw [decide_eq_false (by omega), decide_eq_false (by omega)] <;> rfl
  rw [if_neg q2]
  by_cases q3 : x % 4 = 1
  · rw [if_pos q3]
    exact .rt (.seqIte t1 (fun z => absurd (of_decide_eq_true z) q1) fun _ => .seqN (.seqIte t2 (fun z => by rw [t2'] at z; cases z) fun _ => .seqN (.seqIte t3 (fun _ => .seqR (.ret (.is (.sl (.var rfl) (eo_some .int) eo_none (.dat _)) (by rw [show (1 : Int) = ((1 : Nat) : Int) from rfl, cutW_drop (by omega)])))) fun z => absurd q3 (of_decide_eq_false z))))
  rw [if_neg q3]
  have h0 := Int.emod_nonneg (x / 4) (show (ds.length : Int) ≠ 0 by omega)
  have h1 := Int.emod_lt_of_pos (x / 4) (show (0 : Int) < ds.length by omega)
  obtain ⟨n, hn⟩ : ∃ n : Nat, x / 4 % (ds.length : Int) = n := ⟨(x / 4 % (ds.length : Int)).toNat, by omega⟩
  rw [hn, Int.toNat_natCast]
  have hlt : n < ds.length := by omega
  refine .rt (.seqIte t1 (fun z => absurd (of_decide_eq_true z) q1) fun _ => .seqN (.seqIte t2 (fun z => by rw [t2'] at z; cases z) fun _ => .seqN (.seqIte t3 (fun z => absurd (of_decide_eq_true z) q3) fun _ => .seqN
    (.st (w := natW n) (.is (.mod (.div (.var rfl) .int (by decide)) (.lenG (.var rfl) .map) (by omega)) (by rw [hn] <;> rfl)) (.st (w := di (dM ds n)) (.debtM (.var rfl) (.var rfl) hlt) (.st (w := dl (oddC (dM ds n))) ?_
      (.ret (.cat (.cat (.is (.sl (.var rfl) eo_none (eo_some (.var rfl)) (.dat _)) (by rw [cutW_take (by omega)])) (.lst (ed_cons (.ixG (i := x / 240 % 9) (.var rfl) (.mod (.div (.var rfl) .int (by decide)) .int (by decide)) (.dat (ds := oddC (dM ds n)) (atI_getD (by omega) (by show _ < (9 : Int); omega)))) ea_nil) (Nat.le_of_ble_eq_true rfl)) ?_) (.is (.sl (.var rfl) (eo_some (.add (.var rfl) .int)) eo_none (.dat _)) (by rw [cutW_dropS (by omega)])) ?_))))))))
  · unfold oddC
    walk_at "ev"
    exact mulR (by omega)
  · rw [List.length_take, hlI]
    show _ + 1 ≤ 1000
    omega
  · rw [List.length_append, List.length_take, List.length_drop, hlI]
    show _ + 1 + _ ≤ 1000
    omega
def T_qany_cut (M : List Cell) (ws : List W) (o : Res) : Prop := ∃ (ds : List Dt) (x : Int), ws = [dl (encDs ds), di x] ∧ ds.length ≤ 1000 ∧ (∀ d ∈ ds, 0 ≤ d.m) ∧ o = .ret (dl (iI (anyCut ds x))) M
def u_qany_cut (K : PySem.W.Frag) : TS := (tSeq (tAsg (tOp xMod (tOp xMul (tOp xAdd (tOp xAdd (tOp xMod (tVar 1) (tC (.int 1000000007))) (tOp xMul (tC (.int 6007)) (tVar 3))) (tC (.int 5))) (tC (.int 48271))) (tC (.int 2147483647))) (gName 4))
    (tSeq (tAsg (tOp xMod (tOp xDiv (tVar 4) (tC (.int 4))) (tOp xAdd (tOp (rIx K) (tOp (rIx K) (tVar 0) (tVar 3)) (tC (.int 2))) (tC (.int 1)))) (gName 5))
    (tSeq (tIfS (tTest (tOp xLt (tOp xMod (tVar 4) (tC (.int 4))) (tC (.int 2)))) (tAsg (tOp xMul (tOp (rIx K) (tOp (rIx K) (tVar 0) (tVar 3)) (tC (.int 2))) (tOp xMod (tVar 4) (tC (.int 4)))) (gName 5)) tNext)
    (tDrop (tBM K "list" rAppend (tVar 2) (tCons (tVar 5) tNil))))))
def t_qany_cut (K : PySem.W.Frag) : TS := (tSeq (tAsg (tLst tNil) (gName 2))
    (tSeq (tFor (iRng1 (tCons (tCB (rLenX K) (tCons (tVar 0) tNil)) tNil)) (gName 3) (u_qany_cut K))
    (tRet (tVar 2))))
theorem any_loop {ds : List Dt} {x : Int} (hm : ∀ d ∈ ds, 0 ≤ d.m) (hl : ds.length ≤ 1000) : ∀ (l : List Nat) (acc : List Int) (a3 a4 a5 : Sl), (∀ n ∈ l, n < ds.length) → acc.length + l.length ≤ 2000 →
    ForL K E (gName 3) (u_qany_cut K) (l.map natW) [some (dl (encDs ds)), some (di x), some (.cel (M.length + 0)), a3, a4, a5] (M ++ [.lst (acc.map di)])
      (.nx [some (dl (encDs ds)), some (di x), some (.cel (M.length + 0)), none, none, none] (M ++ [.lst ((acc ++ l.map fun k => anyOne (dM ds k) (anyMix x k)).map di)]))
  | [], acc, a3, a4, a5, _, _ => ⟨_, .cons (.inr rfl) (.cons (.inr rfl) (.cons (.inr rfl) (.cons (.inl rfl) (.cons (.inl rfl) (.cons (.inl rfl) .nil))))), by rw [List.map_nil, List.append_nil]⟩
  | n :: l, acc, a3, a4, a5, h, hlen => by
    have hn := h n List.mem_cons_self
    have hmn : 0 ≤ dM ds n := hm _ (getD_mem hn)
    rw [List.length_cons] at hlen
    refine ⟨_, .name (.st (w := di (anyMix x n)) ?_ (.st (w := di (anyMix x n / 4 % (dM ds n + 1))) (.mod (.div (.var rfl) .int (by decide)) (.add (.debtM (.var rfl) (.var rfl) hn) .int) (by omega)) (.stIf (b := decide (anyMix x n % 4 < 2)) (w1 := di (dM ds n * (anyMix x n % 4))) (w := di (anyOne (dM ds n) (anyMix x n))) (.test (.lt (.mod (.var rfl) .int (by decide)) .int)) (fun _ => .mul (.debtM (.var rfl) (.var rfl) hn) (.mod (.var rfl) .int (by decide)) (mulR (by omega))) rfl di_ite (.appendL (k := 0) (w := di (anyOne (dM ds n) (anyMix x n))) (.var rfl) (.var rfl) rfl ?_)))), ?_⟩
    · walk_at "ev"
      · decide
      · exact mulL (by omega)
      · exact mulR (by omega)
      · decide
    · rw [List.length_map]
      omega
    · have ih := any_loop (x := x) hm hl l (acc ++ [anyOne (dM ds n) (anyMix x n)]) (some (natW n)) (some (di (anyMix x n))) (some (di (anyOne (dM ds n) (anyMix x n)))) (fun m hm => h m (List.mem_cons_of_mem _ hm)) (by rw [List.length_append, List.length_singleton]; omega)
      rw [List.append_assoc, List.singleton_append, List.map_append (l₂ := [_])] at ih
      exact ih
theorem big_qany_cut (h : T_qany_cut M ws o) : BigF K E (t_qany_cut K) (args 6 ws) M o := by
  obtain ⟨ds, x, rfl, hl, hm, rfl⟩ := h
  refine .dat (N0 := [.dead]) (.seq (s1 := [some (dl (encDs ds)), some (di x), some (.cel (M.length + 0)), none, none, none]) (M1 := M ++ [.lst (([] : List Int).map di)]) (.asg (.lstC ea_nil (by decide)))
    (.seq (s1 := [some (dl (encDs ds)), some (di x), some (.cel (M.length + 0)), none, none, none]) (M1 := M ++ [.lst ((anyCut ds x).map di)]) (.forR (n := (ds.length : Int)) (ea_cons (.lenG (.var rfl) .map) ea_nil) (by omega) (by omega) ?_) (.ret (.frzL (k := 0) (.var rfl) ?_))))
  · have q := any_loop (K := K) (E := E) (M := M) (x := x) hm hl (List.range ds.length) [] none none none (fun n hn => List.mem_range.mp hn) (by rw [List.length_range, List.length_nil]; omega)
    rw [List.nil_append] at q
    exact q
  · rw [map_dat_ints] <;> rfl
def T_qrefused3 (X : Xs) (M : List Cell) (ws : List W) (o : Res) : Prop := ∃ (c : Nat) (ds : List Dt) (d : PyData), ws = [di c, dl (encDs ds), .dat d] ∧ c ≤ 1000 ∧ ds.length ≤ 1000 ∧ (∀ d ∈ ds, d.a < c ∧ d.b < c) ∧ isCut ds d = false ∧ o = .ret (db true) M
def u_qrefused3 (K : PySem.W.Frag) (X : Xs) : Addr → Value → Option Addr → TS := fun a cls d => (tAsg (tOp xAdd (tVar 3) (tCB rIntX (tCons (tOp rEq (tCall (spS K (T_qkind K X) a cls d) [] E0 (tCons (tVar 4) tNil)) (tC (.str "cut"))) tNil))) (gName 3))
def t_qrefused3 (K : PySem.W.Frag) (X : Xs) : TS := (tSeq (tAsg (tC (.int 0)) (gName 3))
    (tSeq (tTry K X.DebtError 4 (u_qrefused3 K X) (fun W => (tDrop (tCallS (spOf K (T_worth X)) (WE W) (tCons (tVar 1) (tCons (tVar 2) tNil))))))
    (tSeq (tTry K X.DebtError 4 (u_qrefused3 K X) (fun W => (tDrop (tCallS (spOf K (T_left X)) (WE W) (tCons (tVar 1) (tCons (tVar 2) tNil))))))
    (tSeq (tTry K X.DebtError 4 (u_qrefused3 K X) (fun W => (tDrop (tCallS (spOf K (T_even X)) (WE W) (tCons (tVar 0) (tCons (tVar 1) (tCons (tVar 2) tNil)))))))
    (tRet (tOp rEq (tVar 3) (tC (.int 3))))))))
theorem big_qrefused3 (k : KitOk K X X.BadCut 2) (h : T_qrefused3 X M ws o) : BigF K E (t_qrefused3 K X) (args 5 ws) M o := by
  obtain ⟨c, ds, d, rfl, hc, hl, hb, hd, rfl⟩ := h
  have su : ∀ (i : Int) (e : Addr), Big K E (u_qrefused3 K X e (.ref X.BadCut) none) [some (di c), some (dl (encDs ds)), some (.dat d), some (di i), some (.raw e)] M (.nx [some (di c), some (dl (encDs ds)), some (.dat d), some (di (i + 1)), none] M) := fun i e =>
    .weakN (.asg (n := 3) (w := di (i + 1)) (s := [some (di c), some (dl (encDs ds)), some (.dat d), some (di i), some (.raw e)]) (.is (.add (.var rfl) (.intB (b := true) (.is (.eq (.callS (w := ds_ "cut") (ea_cons (.var rfl) ea_nil) ⟨2, by decide, k, rfl, rfl⟩) .str (.str _ _)) (by simp)))) rfl)) (.cons (.inr rfl) (.cons (.inr rfl) (.cons (.inr rfl) (.cons (.inr rfl) (.cons (.inl rfl) .nil)))))
  refine .rt (.st .int (.seq (s1 := [some (di c), some (dl (encDs ds)), some (.dat d), some (di (0 + 1)), none]) (M1 := M) (.tryD_er (o := .nx [some (di c), some (dl (encDs ds)), some (.dat d), some (di (0 + 1)), none] M) (T := T_worth X) (M2 := M) (ea_cons (.var rfl) (ea_cons (.var rfl) ea_nil)) ⟨ds, d, rfl, hl, .inr ⟨hd, rfl⟩⟩ k.d (su 0)) (.seq (s1 := [some (di c), some (dl (encDs ds)), some (.dat d), some (di (0 + 1 + 1)), none]) (M1 := M) (.tryD_er (o := .nx [some (di c), some (dl (encDs ds)), some (.dat d), some (di (0 + 1 + 1)), none] M) (T := T_left X) (M2 := M) (ea_cons (.var rfl) (ea_cons (.var rfl) ea_nil)) ⟨ds, d, rfl, hl, .inr ⟨hd, rfl⟩⟩ k.d (su (0 + 1)))
    (.seq (s1 := [some (di c), some (dl (encDs ds)), some (.dat d), some (di (0 + 1 + 1 + 1)), none]) (M1 := M) (.tryD_er (o := .nx [some (di c), some (dl (encDs ds)), some (.dat d), some (di (0 + 1 + 1 + 1)), none] M) (T := T_even X) (M2 := M) (ea_cons (.var rfl) (ea_cons (.var rfl) (ea_cons (.var rfl) ea_nil))) ⟨c, ds, d, rfl, hc, hl, hb, .inr ⟨hd, rfl⟩⟩ k.d (su (0 + 1 + 1))) (.ret (.is (.eq (.var rfl) .int (.int _ _)) (by simp)))))))
end
end Bk

set_option Elab.async false
set_option linter.all false
set_option maxRecDepth 100000
set_option maxHeartbeats 4000000
/-! C05: shown, the law's own look at prices -/
namespace Bk
open PySem L2 Vx HotP
def lure (ds : List Dt) (p : List Int) (n : Nat) : Int := 1 + p.getD (dA ds n) 0 - p.getD (dB ds n) 0
def showOk (ds : List Dt) (f p : List Int) (n : Nat) : Bool := !((decide (lure ds p n < 0) && decide (0 < f.getD n 0)) || (decide (0 < lure ds p n) && decide (f.getD n 0 < dM ds n)))
def shows (ds : List Dt) (f p : List Int) : Bool := (List.range ds.length).all (showOk ds f p)
def isTags (c : Nat) : PyData → Bool
  | .list ts => decide (ts.length = c) && ts.all isInt
  | _ => false
theorem isTags_list {c : Nat} {ts : List PyData} : isTags c (.list ts) = (decide (ts.length = c) && ts.all isInt) := rfl
section
variable {K : PySem.W.Frag} {E : XK} {M M1 M2 : List Cell} {s : List Sl} {ws : List W} {o : Res} {X : Xs} {ta tb : TE}
theorem all_yes {α : Type} {l : List α} {p : α → Bool} (h : ∀ x ∈ l, p x = true) : (l.map p).all id = true := by
  rw [List.all_map, List.all_eq_true]
  exact h
def T_shown (X : Xs) (M : List Cell) (ws : List W) (o : Res) : Prop := ∃ (c : Nat) (ds : List Dt) (d e : PyData), ws = [di c, dl (encDs ds), .dat d, .dat e] ∧ c ≤ 1000 ∧ ds.length ≤ 1000 ∧ (∀ d ∈ ds, d.a < c ∧ d.b < c) ∧
  ((isCut ds d = false ∧ o = .rz (.ref X.BadCut) M) ∨ (∃ f, d = .list (iI f) ∧ CutOk ds f ∧ isTags c e = false ∧ (∀ ts, e = .list ts → ts.length ≤ 2000) ∧ o = .rz (.ref X.BadPrices) M) ∨ ∃ f p, d = .list (iI f) ∧ CutOk ds f ∧ e = .list (iI p) ∧ p.length = c ∧ o = .ret (db (shows ds f p)) M)
def u_shown (K : PySem.W.Frag) : TS := (tSeq (tAsg (tOp (rIx K) (tVar 1) (tVar 4)) (gTup K 3 (gCons (gName 5) (gCons (gName 6) (gCons (gName 7) gNil)))))
    (tSeq (tAsg (tOp xSub (tOp xAdd (tC (.int 1)) (tOp (rIx K) (tVar 3) (tVar 5))) (tOp (rIx K) (tVar 3) (tVar 6))) (gName 8))
    (tIfS (tOr (tAnd (tTest (tOp xLt (tVar 8) (tC (.int 0)))) (tTest (tOp xGt (tOp (rIx K) (tVar 2) (tVar 4)) (tC (.int 0))))) (tAnd (tTest (tOp xGt (tVar 8) (tC (.int 0)))) (tTest (tOp xLt (tOp (rIx K) (tVar 2) (tVar 4)) (tVar 7))))) (tRet (tC (.bl false))) tNext)))
def t_shown (K : PySem.W.Frag) (E : XK) (X : Xs) : TS := (tSeq (tDrop (tCall (spOf K (T_need_cut X)) [] E (tCons (tVar 1) (tCons (tVar 2) tNil))))
    (tSeq (tIfS (tOr (tNot (tB (tCB (rIsi K) (tCons (tVar 3) (tCons (tC (.ty "list")) tNil))))) (tOr (tTest (tOp rNe (tCB (rLenX K) (tCons (tVar 3) tNil)) (tVar 0))) (tNot (tB (tCB (rAll K) (tCons (tLc (iList K (tVar 3)) (gName 9) tYes (tCall (spOf K T_is_whole) [] E0 (tCons (tVar 9) tNil)) [9]) tNil)))))) (tRz E X.BadPrices) tNext)
    (tSeq (tFor (iRng1 (tCons (tCB (rLenX K) (tCons (tVar 1) tNil)) tNil)) (gName 4) (u_shown K))
    (tRet (tC (.bl true))))))
theorem show_loop {c : Nat} {ds : List Dt} {f p : List Int} (hf : f.length = ds.length) (hp : p.length = c) (hb : ∀ d ∈ ds, d.a < c ∧ d.b < c) {s0 : Sl} : ∀ (l : List Nat) (a4 a5 a6 a7 a8 : Sl), (∀ n ∈ l, n < ds.length) →
    ForL K E (gName 4) (u_shown K) (l.map natW) [s0, some (dl (encDs ds)), some (dl (iI f)), some (dl (iI p)), a4, a5, a6, a7, a8, none] M (if l.all (showOk ds f p) = true then .nx [s0, some (dl (encDs ds)), some (dl (iI f)), some (dl (iI p)), none, none, none, none, none, none] M else .rt (db false) M)
  | [], a4, a5, a6, a7, a8, _ => ⟨_, .cons (.inr rfl) (.cons (.inr rfl) (.cons (.inr rfl) (.cons (.inr rfl) (.cons (.inl rfl) (.cons (.inl rfl) (.cons (.inl rfl) (.cons (.inl rfl) (.cons (.inl rfl) (.cons (.inr rfl) .nil))))))))), rfl⟩
  | n :: l, a4, a5, a6, a7, a8, h => by
    have hn := h n List.mem_cons_self
    have hab := hb _ (getD_mem hn)
    have ha : dA ds n < c := hab.1
    have hbb : dB ds n < c := hab.2
    have ht : EvB K (tOr (tAnd (tTest (tOp xLt (tVar 8) (tC (.int 0)))) (tTest (tOp xGt (tOp (rIx K) (tVar 2) (tVar 4)) (tC (.int 0))))) (tAnd (tTest (tOp xGt (tVar 8) (tC (.int 0)))) (tTest (tOp xLt (tOp (rIx K) (tVar 2) (tVar 4)) (tVar 7)))))
        [s0, some (dl (encDs ds)), some (dl (iI f)), some (dl (iI p)), some (natW n), some (di (dA ds n)), some (di (dB ds n)), some (di (dM ds n)), some (di (lure ds p n)), none] M (!showOk ds f p n) M :=
      .is (.or (.and (.test (.lt (.var rfl) .int)) fun _ => .test (.gt (.intI (.var rfl) (.var rfl) rfl (by omega)) .int)) fun _ => .and (.test (.gt (.var rfl) .int)) fun _ => .test (.lt (.intI (.var rfl) (.var rfl) rfl (by omega)) (.var rfl))) (by unfold showOk; rw [Bool.not_not])
    have un : ∀ {o : Out}, Big K E (tIfS (tOr (tAnd (tTest (tOp xLt (tVar 8) (tC (.int 0)))) (tTest (tOp xGt (tOp (rIx K) (tVar 2) (tVar 4)) (tC (.int 0))))) (tAnd (tTest (tOp xGt (tVar 8) (tC (.int 0)))) (tTest (tOp xLt (tOp (rIx K) (tVar 2) (tVar 4)) (tVar 7))))) (tRet (tC (.bl false))) tNext) [s0, some (dl (encDs ds)), some (dl (iI f)), some (dl (iI p)), some (natW n), some (di (dA ds n)), some (di (dB ds n)), some (di (dM ds n)), some (di (lure ds p n)), none] M o →
        BigG K E (gName 4) (u_shown K) (natW n) [s0, some (dl (encDs ds)), some (dl (iI f)), some (dl (iI p)), a4, a5, a6, a7, a8, none] M o := fun q =>
      .name (.seq (.unpack3 (x := .int (dA ds n)) (y := .int (dB ds n)) (z := .int (dM ds n)) (.ixG (.var rfl) (.var rfl) (.map (f := encD) (x := ds.getD n d0) (at_nat hn)))) (.st (w := di (lure ds p n)) (.sub (.add .int (.intI (.var rfl) (.var rfl) rfl (by omega))) (.intI (.var rfl) (.var rfl) rfl (by omega))) q))
    rw [List.all_cons]
    by_cases q : showOk ds f p n = true
    · rw [q, Bool.true_and]
      exact ⟨_, un (.ite ht (fun z => by rw [q] at z; cases z) fun _ => .next), show_loop hf hp hb l _ _ _ _ _ fun m hm => h m (List.mem_cons_of_mem _ hm)⟩
    · have q' : showOk ds f p n = false := by simpa using q
      rw [q', Bool.false_and, if_neg Bool.false_ne_true]
      exact ⟨_, un (.ite ht (fun _ => .ret .bl) fun z => by rw [q'] at z; cases z), rfl⟩
theorem big_shown (h : T_shown X M ws o) : BigF K E (t_shown K E X) (args 10 ws) M o := by
  obtain ⟨c, ds, d, e, rfl, hc, hl, hb, ⟨hd, rfl⟩ | ⟨f, rfl, k, he, hts, rfl⟩ | ⟨f, p, rfl, k, rfl, hp, rfl⟩⟩ := h
  · exact .raise (N0 := []) (.is (.seqZ (need_no hd hl (.var rfl) (.var rfl))) (by rw [List.append_nil]))
  · have ht : EvB K (tNot (tB (tCB (rIsi K) (tCons (tVar 3) (tCons (tC (.ty "list")) tNil))))) (args 10 [di c, dl (encDs ds), dl (iI f), .dat e]) M (!isLst e) M := .not (.val (.isT (.var rfl) (kit_lst e)))
    refine .raise (N0 := []) (.is (.seq (need_yes (t := tNext) k hl (.var rfl) (.var rfl)) (.seqIte (b := true) ?_ (fun _ => .seqZ .rz) fun z => nomatch z)) (by rw [List.append_nil]))
    cases e with
    | list ts =>
      have hts := hts ts rfl
      refine .is (.or ht fun _ => .or (.test (.ne (.lenG (.var rfl) .dl) (.var rfl) (.int _ _))) fun _ => .not (.val (.is (.all (bs := ts.map isInt) ?_) (by rw [all_id])))) ?_
      · rw [List.map_map]
        exact .lcL1 (enc := W.dat) (f := fun d => .bool (isInt d)) (.var rfl) (.dat ts) (by omega) fun a _ => .call (ea_cons (.var rfl) ea_nil) ⟨_, rfl, rfl⟩
      · rw [isTags_list] at he
        by_cases q : ts.length = c
        · rw [decide_eq_true q, Bool.true_and] at he
          rw [he]
          simp [isLst]
        · rw [decide_eq_false (by omega)]
          simp [isLst]
    | _ => exact .or (c := true) ht fun z => nomatch z
  · have hall : EvB K (tOr (tNot (tB (tCB (rIsi K) (tCons (tVar 3) (tCons (tC (.ty "list")) tNil))))) (tOr (tTest (tOp rNe (tCB (rLenX K) (tCons (tVar 3) tNil)) (tVar 0))) (tNot (tB (tCB (rAll K) (tCons (tLc (iList K (tVar 3)) (gName 9) tYes (tCall (spOf K T_is_whole) [] E0 (tCons (tVar 9) tNil)) [9]) tNil)))))) (args 10 [di c, dl (encDs ds), dl (iI f), dl (iI p)]) M (!true || (!true || !true)) M := by
      refine .or (.not (.val (.isT (.var rfl) (kit_lst _)))) fun _ => .or (.is (.test (.ne (.lenG (.var rfl) .map) (.var rfl) (.int _ _))) (by rw [decide_eq_true (by omega)])) fun _ => .not (.val (.is (.all (bs := p.map fun _ => true) ?_) (by rw [all_yes fun _ _ => rfl])))
      rw [List.map_map]
      exact .lcL1 (enc := di) (f := fun _ => .bool true) (.var rfl) lst_iI (by omega) fun a _ => .call (ea_cons (.var rfl) ea_nil) ⟨_, rfl, rfl⟩
    have q := show_loop (K := K) (E := E) (M := M) (s0 := some (di c)) k.len hp hb (List.range ds.length) none none none none none fun n hn => List.mem_range.mp hn
    refine .rt (.seq (need_yes (t := tNext) k hl (.var rfl) (.var rfl)) (.seqIte hall (fun z => nomatch z) fun _ => .seqN ?_))
    unfold shows
    by_cases z : (List.range ds.length).all (showOk ds f p) = true
    · rw [if_pos z] at q
      rw [z]
      exact .seq (.forR (n := (ds.length : Int)) (ea_cons (.lenG (.var rfl) .map) ea_nil) (by omega) (by omega) q) (.ret .bl)
    · have z' : (List.range ds.length).all (showOk ds f p) = false := by simpa using z
      rw [if_neg z] at q
      rw [z']
      exact .seqR (.forR (n := (ds.length : Int)) (ea_cons (.lenG (.var rfl) .map) ea_nil) (by omega) (by omega) q)
def T_qshows (M : List Cell) (ws : List W) (o : Res) : Prop := ∃ (c : Nat) (ds : List Dt) (f p : List Int), ws = [dl (encDs ds), dl (iI f), dl (iI p)] ∧ ds.length ≤ 1000 ∧ f.length = ds.length ∧ p.length = c ∧ (∀ d ∈ ds, d.a < c ∧ d.b < c) ∧ o = .ret (db (shows ds f p)) M
def u_qshows (K : PySem.W.Frag) : TS := (tSeq (tAsg (tOp (rIx K) (tVar 0) (tVar 3)) (gTup K 3 (gCons (gName 4) (gCons (gName 5) (gCons (gName 6) gNil)))))
    (tSeq (tAsg (tOp xSub (tOp xAdd (tC (.int 1)) (tOp (rIx K) (tVar 2) (tVar 4))) (tOp (rIx K) (tVar 2) (tVar 5))) (gName 7))
    (tSeq (tIfS (tAnd (tTest (tOp xLt (tVar 7) (tC (.int 0)))) (tTest (tOp xGt (tOp (rIx K) (tVar 1) (tVar 3)) (tC (.int 0))))) (tRet (tC (.bl false))) tNext)
    (tIfS (tAnd (tTest (tOp xGt (tVar 7) (tC (.int 0)))) (tTest (tOp xLt (tOp (rIx K) (tVar 1) (tVar 3)) (tVar 6)))) (tRet (tC (.bl false))) tNext))))
def t_qshows (K : PySem.W.Frag) : TS := (tSeq (tFor (iRng1 (tCons (tCB (rLenX K) (tCons (tVar 0) tNil)) tNil)) (gName 3) (u_qshows K))
    (tRet (tC (.bl true))))
theorem qshow_loop {c : Nat} {ds : List Dt} {f p : List Int} (hf : f.length = ds.length) (hp : p.length = c) (hb : ∀ d ∈ ds, d.a < c ∧ d.b < c) : ∀ (l : List Nat) (a3 a4 a5 a6 a7 : Sl), (∀ n ∈ l, n < ds.length) →
    ForL K E (gName 3) (u_qshows K) (l.map natW) [some (dl (encDs ds)), some (dl (iI f)), some (dl (iI p)), a3, a4, a5, a6, a7] M (if l.all (showOk ds f p) = true then .nx [some (dl (encDs ds)), some (dl (iI f)), some (dl (iI p)), none, none, none, none, none] M else .rt (db false) M)
  | [], a3, a4, a5, a6, a7, _ => ⟨_, .cons (.inr rfl) (.cons (.inr rfl) (.cons (.inr rfl) (.cons (.inl rfl) (.cons (.inl rfl) (.cons (.inl rfl) (.cons (.inl rfl) (.cons (.inl rfl) .nil))))))), rfl⟩
  | n :: l, a3, a4, a5, a6, a7, h => by
    have hn := h n List.mem_cons_self
    have hab := hb _ (getD_mem hn)
    have ha : dA ds n < c := hab.1
    have hbb : dB ds n < c := hab.2
    have t1 : EvB K (tAnd (tTest (tOp xLt (tVar 7) (tC (.int 0)))) (tTest (tOp xGt (tOp (rIx K) (tVar 1) (tVar 3)) (tC (.int 0)))))
        [some (dl (encDs ds)), some (dl (iI f)), some (dl (iI p)), some (natW n), some (di (dA ds n)), some (di (dB ds n)), some (di (dM ds n)), some (di (lure ds p n))] M (decide (lure ds p n < 0) && decide (0 < f.getD n 0)) M :=
      .and (.test (.lt (.var rfl) .int)) fun _ => .test (.gt (.intI (.var rfl) (.var rfl) rfl (by omega)) .int)
    have t2 : EvB K (tAnd (tTest (tOp xGt (tVar 7) (tC (.int 0)))) (tTest (tOp xLt (tOp (rIx K) (tVar 1) (tVar 3)) (tVar 6))))
        [some (dl (encDs ds)), some (dl (iI f)), some (dl (iI p)), some (natW n), some (di (dA ds n)), some (di (dB ds n)), some (di (dM ds n)), some (di (lure ds p n))] M (decide (0 < lure ds p n) && decide (f.getD n 0 < dM ds n)) M :=
      .and (.test (.gt (.var rfl) .int)) fun _ => .test (.lt (.intI (.var rfl) (.var rfl) rfl (by omega)) (.var rfl))
    have un : ∀ {o : Out}, Big K E (tSeq (tIfS (tAnd (tTest (tOp xLt (tVar 7) (tC (.int 0)))) (tTest (tOp xGt (tOp (rIx K) (tVar 1) (tVar 3)) (tC (.int 0))))) (tRet (tC (.bl false))) tNext)
    (tIfS (tAnd (tTest (tOp xGt (tVar 7) (tC (.int 0)))) (tTest (tOp xLt (tOp (rIx K) (tVar 1) (tVar 3)) (tVar 6)))) (tRet (tC (.bl false))) tNext)) [some (dl (encDs ds)), some (dl (iI f)), some (dl (iI p)), some (natW n), some (di (dA ds n)), some (di (dB ds n)), some (di (dM ds n)), some (di (lure ds p n))] M o →
        BigG K E (gName 3) (u_qshows K) (natW n) [some (dl (encDs ds)), some (dl (iI f)), some (dl (iI p)), a3, a4, a5, a6, a7] M o := fun q =>
      .name (.seq (.unpack3 (x := .int (dA ds n)) (y := .int (dB ds n)) (z := .int (dM ds n)) (.ixG (.var rfl) (.var rfl) (.map (f := encD) (x := ds.getD n d0) (at_nat hn)))) (.st (w := di (lure ds p n)) (.sub (.add .int (.intI (.var rfl) (.var rfl) rfl (by omega))) (.intI (.var rfl) (.var rfl) rfl (by omega))) q))
    rw [List.all_cons]
    by_cases q : showOk ds f p n = true
    · rw [q, Bool.true_and]
      have q2 := q
      unfold showOk at q2
      rw [Bool.not_eq_true', Bool.or_eq_false_iff] at q2
      exact ⟨_, un (.seqIte t1 (fun z => by rw [q2.1] at z; cases z) fun _ => .seqN (.ite t2 (fun z => by rw [q2.2] at z; cases z) fun _ => .next)), qshow_loop hf hp hb l _ _ _ _ _ fun m hm => h m (List.mem_cons_of_mem _ hm)⟩
    · have q' : showOk ds f p n = false := by simpa using q
      have q2 := q'
      unfold showOk at q2
      rw [Bool.not_eq_false', Bool.or_eq_true] at q2
      rw [q', Bool.false_and, if_neg Bool.false_ne_true]
      refine ⟨_, un (.seqIte t1 (fun _ => .seqR (.ret .bl)) fun z => .seqN (.ite t2 (fun _ => .ret .bl) fun y => ?_)), rfl⟩
      rcases q2 with q2 | q2
      · rw [q2] at z; cases z
      · rw [q2] at y; cases y
theorem big_qshows (h : T_qshows M ws o) : BigF K E (t_qshows K) (args 8 ws) M o := by
  obtain ⟨c, ds, f, p, rfl, hl, hf, hp, hb, rfl⟩ := h
  have q := qshow_loop (K := K) (E := E) (M := M) hf hp hb (List.range ds.length) none none none none none fun n hn => List.mem_range.mp hn
  unfold shows
  by_cases z : (List.range ds.length).all (showOk ds f p) = true
  · rw [if_pos z] at q
    rw [z]
    exact .rt (.seq (.forR (n := (ds.length : Int)) (ea_cons (.lenG (.var rfl) .map) ea_nil) (by omega) (by omega) q) (.ret .bl))
  · have z' : (List.range ds.length).all (showOk ds f p) = false := by simpa using z
    rw [if_neg z] at q
    rw [z']
    exact .rt (.seqR (.forR (n := (ds.length : Int)) (ea_cons (.lenG (.var rfl) .map) ea_nil) (by omega) (by omega) q))
end
end Bk

set_option Elab.async false
set_option linter.all false
set_option maxRecDepth 100000
set_option maxHeartbeats 4000000
/-! C06: need_even, rings, the law k06 -/
namespace Bk
open PySem L2 Vx HotP
section
variable {K : PySem.W.Frag} {E : XK} {M M1 M2 : List Cell} {s : List Sl} {ws : List W} {o : Res} {X : Xs} {ta tb : TE}
/-- what an even cut is refused for, if at all -/
inductive EvenR (X : Xs) (c : Nat) (ds : List Dt) : PyData → Option (List Int ⊕ Addr) → Prop
  | ok {f : List Int} (k : CutOk ds f) (h : evenB c ds f = true) : EvenR X c ds (.list (iI f)) (some (.inl f))
  | no {f : List Int} (k : CutOk ds f) (h : evenB c ds f = false) : EvenR X c ds (.list (iI f)) (some (.inr X.Uneven))
  | bad {d : PyData} (h : isCut ds d = false) : EvenR X c ds d (some (.inr X.BadCut))
def T_need_even (X : Xs) (M : List Cell) (ws : List W) (o : Res) : Prop := ∃ (c : Nat) (ds : List Dt) (d : PyData), ws = [di c, dl (encDs ds), .dat d] ∧ c ≤ 1000 ∧ ds.length ≤ 1000 ∧ (∀ d ∈ ds, d.a < c ∧ d.b < c) ∧ ((∃ f, EvenR X c ds d (some (.inl f)) ∧ o = .ret dn M) ∨ ∃ C, EvenR X c ds d (some (.inr C)) ∧ o = .rz (.ref C) M)
def t_need_even (K : PySem.W.Frag) (E : XK) (X : Xs) : TS := (tIfS (tNot (tB (tCall (spOf K (T_even X)) [] E (tCons (tVar 0) (tCons (tVar 1) (tCons (tVar 2) tNil)))))) (tRz E X.Uneven) tNext)
/-- an if whose test raises -/
theorem ite_raise {t u : TS} {ta : TA} {cl : Value} {T : List Cell → List W → Res → Prop} (h : EvA K ta s M ws M1) (hT : T M1 ws (.rz cl M2)) : Big K E (tIfS (tNot (tB (tCall (spOf K T) [] E ta))) t u) s M (.rz cl M2) := fun G al σ H D k r p =>
  h G al σ H k r _ fun vs G1 al1 H1 k1 l1 r1 => by
    rw [List.append_nil]
    exact ⟨M1, ws, _, hT, G1, al1, k1, r1, fun G' al' H' k' l' => p G' al' H' k' (l1.trans k1 k.kn l')⟩
theorem big_need_even (h : T_need_even X M ws o) : BigF K E (t_need_even K E X) (args 3 ws) M o := by
  obtain ⟨c, ds, d, rfl, hc, hl, hb, ⟨f, h, rfl⟩ | ⟨C, h, rfl⟩⟩ := h
  · cases h with
    | ok k he => exact .none (N0 := []) (.is (.ite (b := !true) (.not (.val (.call (ea_cons (.var rfl) (ea_cons (.var rfl) (ea_cons (.var rfl) ea_nil))) ⟨c, ds, _, rfl, hc, hl, hb, .inl ⟨f, rfl, k, by rw [he]⟩⟩))) (fun z => nomatch z) fun _ => .next) (by rw [List.append_nil]))
  · cases h with
    | @no f k he => exact .raise (N0 := []) (.is (.ite (b := !false) (.not (.val (.call (ea_cons (.var rfl) (ea_cons (.var rfl) (ea_cons (.var rfl) ea_nil))) ⟨c, ds, _, rfl, hc, hl, hb, .inl ⟨f, rfl, k, by rw [he]⟩⟩))) (fun _ => .rz) fun z => nomatch z) (by rw [List.append_nil]))
    | bad hd => exact .raise (N0 := []) (.is (ite_raise (ea_cons (.var rfl) (ea_cons (.var rfl) (ea_cons (.var rfl) ea_nil))) ⟨c, ds, d, rfl, hc, hl, hb, .inr ⟨hd, rfl⟩⟩) (by rw [List.append_nil]))
/-- the call of need_even at an even cut, and at none -/
theorem even_yes {c : Nat} {ds : List Dt} {f : List Int} (k : CutOk ds f) (he : evenB c ds f = true) (hc : c ≤ 1000) (hl : ds.length ≤ 1000) (hb : ∀ d ∈ ds, d.a < c ∧ d.b < c) {a b e : TE} (ha : Ev K a s M (di c) M) (hb1 : Ev K b s M (dl (encDs ds)) M) (he1 : Ev K e s M (dl (iI f)) M) : Big K E (tDrop (tCall (spOf K (T_need_even X)) [] E (tCons a (tCons b (tCons e tNil))))) s M (.nx s M) :=
  .drop (.call (w := dn) (ea_cons ha (ea_cons hb1 (ea_cons he1 ea_nil))) ⟨c, ds, _, rfl, hc, hl, hb, .inl ⟨f, .ok k he, rfl⟩⟩)
theorem even_no {c : Nat} {ds : List Dt} {d : PyData} {C : Addr} (h : EvenR X c ds d (some (.inr C))) (hc : c ≤ 1000) (hl : ds.length ≤ 1000) (hb : ∀ d ∈ ds, d.a < c ∧ d.b < c) {a b e : TE} (ha : Ev K a s M (di c) M) (hb1 : Ev K b s M (dl (encDs ds)) M) (he1 : Ev K e s M (.dat d) M) : Big K E (tDrop (tCall (spOf K (T_need_even X)) [] E (tCons a (tCons b (tCons e tNil))))) s M (.rz (.ref C) M) :=
  .callZ (ea_cons ha (ea_cons hb1 (ea_cons he1 ea_nil))) ⟨c, ds, _, rfl, hc, hl, hb, .inr ⟨C, h, rfl⟩⟩
abbrev encR (p : Int × List Nat) : PyData := .tuple [.int p.1, .list (nI p.2)]
def T_rings (X : Xs) (M : List Cell) (ws : List W) (o : Res) : Prop := ∃ (c : Nat) (ds : List Dt) (d : PyData), ws = [di c, dl (encDs ds), .dat d] ∧ c ≤ 20 ∧ ds.length ≤ 1000 ∧ (∀ d ∈ ds, d.a < c ∧ d.b < c) ∧ ((∃ f, EvenR X c ds d (some (.inl f)) ∧ o = .ret (dl ((ringsOf ds f).map encR)) M) ∨ ∃ C, EvenR X c ds d (some (.inr C)) ∧ o = .rz (.ref C) M)
def v_rings (K : PySem.W.Frag) : TS := (tAsg (tOp xSub (tOp (rIx K) (tVar 3) (tVar 5)) (tVar 8)) (gSub (tVar 3) (tVar 5) rSetL))
def n_rings (K : PySem.W.Frag) : TE := (tLc (iRng1 (tCons (tCB (rLenX K) (tCons (tVar 1) tNil)) tNil)) (gName 5) (tTest (tOp xGt (tOp (rIx K) (tVar 3) (tVar 5)) (tC (.int 0)))) (tVar 5) [5])
def u_rings (K : PySem.W.Frag) : TS := (tSeq (tAsg (tCall (spOf K T_walked) [] E0 (tCons (tVar 1) (tCons (tVar 6) (tCons (tOp (rIx K) (tOp (rIx K) (tVar 1) (tOp (rIx K) (tVar 6) (tC (.int 0)))) (tC (.int 0))) tNil)))) (gName 7))
    (tSeq (tAsg (tCB (rMin K) (tCons (tLc (iList K (tVar 7)) (gName 5) tYes (tOp (rIx K) (tVar 3) (tVar 5)) [5]) tNil)) (gName 8))
    (tSeq (tFor (iList K (tVar 7)) (gName 5) (v_rings K))
    (tSeq (tDrop (tBM K "list" rAppend (tVar 4) (tCons (tTup (tCons (tVar 8) (tCons (tVar 7) tNil))) tNil)))
    (tAsg (n_rings K) (gName 6))))))
def t_rings (K : PySem.W.Frag) (E : XK) (X : Xs) : TS := (tSeq (tDrop (tCall (spOf K (T_need_even X)) [] E (tCons (tVar 0) (tCons (tVar 1) (tCons (tVar 2) tNil)))))
    (tSeq (tAsg (tCB (rListX K) (tCons (tVar 2) tNil)) (gName 3))
    (tSeq (tAsg (tLst tNil) (gName 4))
    (tSeq (tAsg (n_rings K) (gName 6))
    (tSeq (tWhile (tTest (tOp (rNeD K) (tVar 6) (tLst tNil))) (u_rings K))
    (tRet (tVar 4)))))))
theorem rless_loop {s0 s1 s2 s6 s7 : Sl} {k : Int} {N : Cell} : ∀ (r : List Nat) (l : List Int) (a5 : Sl), (∀ n ∈ r, n < l.length) →
    ForL K E (gName 5) (v_rings K) (r.map natW) [s0, s1, s2, some (.cel (M.length + 0)), some (.cel (M.length + 1)), a5, s6, s7, some (di k)] (M ++ [.lst (l.map di), N])
      (.nx [s0, s1, s2, some (.cel (M.length + 0)), some (.cel (M.length + 1)), none, s6, s7, some (di k)] (M ++ [.lst ((r.foldl (fun l n => lessAt l k n) l).map di), N]))
  | [], l, a5, _ => ⟨_, .cons (.inr rfl) (.cons (.inr rfl) (.cons (.inr rfl) (.cons (.inr rfl) (.cons (.inr rfl) (.cons (.inl rfl) (.cons (.inr rfl) (.cons (.inr rfl) (.cons (.inr rfl) .nil)))))))), rfl⟩
  | n :: r, l, a5, h => by
    have hn := h n List.mem_cons_self
    refine ⟨_, .name (.setItemL (k := 0) (w := di (l.getD n 0 - k)) (i := (n : Int)) (n := n) (.sub (.ixG (.var rfl) (.var rfl) (.lst (.cel (getL rfl)) (atI_map (atI_nat (getD_some hn))))) (.var rfl)) (.var rfl) (.var rfl) rfl ?_), ?_⟩
    · rw [List.length_map]
      exact ixN_nat hn
    · show ForL _ _ _ _ _ _ (M ++ [.lst ((l.map di).set n (di _)), N]) _
      rw [set_map_di]
      exact rless_loop r (lessAt l k n) _ fun m hm => by rw [lessAt_len]; exact h m (List.mem_cons_of_mem _ hm)
theorem nums_ev {ds : List Dt} {l : List Int} {N : Cell} {s : List Sl} (hl : ds.length ≤ 1000) (hlen : l.length = ds.length) (h1 : s[1]? = some (some (dl (encDs ds)))) (h3 : s[3]? = some (some (.cel (M.length + 0)))) (h5 : 5 < s.length) :
    Ev K (n_rings K) s (M ++ [.lst (l.map di), N]) (dl (nI (posN ds l))) (M ++ [.lst (l.map di), N]) := by
  have hs : ∀ (n j : Nat), j ≠ 5 → (s.set 5 (some (natW n)))[j]? = s[j]? := fun n j hj => List.getElem?_set_ne (fun z => hj z.symm)
  exact .lcR (m := (ds.length : Int)) (f := fun n => .int (n : Int)) (ea_cons (.lenG (.var h1) .map) ea_nil) (by omega) (fun n hn => .test (.gt (.ixG (.var (by rw [hs n 3 (by decide)]; exact h3)) (.var (List.getElem?_set_self h5)) (.lst (.cel (getL rfl)) (atI_map (atI_nat (getD_some (by omega)))))) .int)) fun n _ _ => .var (List.getElem?_set_self h5)
theorem rings_loop {c : Nat} {ds : List Dt} {s0 s2 : Sl} (hc : c ≤ 20) (hl : ds.length ≤ 1000) (hb : ∀ d ∈ ds, d.a < c ∧ d.b < c) : ∀ (n : Nat) (l : List Int) (acc : List (Int × List Nat)) (a7 a8 : Sl), RestOk ds l → (posN ds l).length ≤ n → acc.length + n ≤ 2000 →
    ∃ l' : List Int, WhL K E (tTest (tOp (rNeD K) (tVar 6) (tLst tNil))) (u_rings K) (n + 1) [s0, some (dl (encDs ds)), s2, some (.cel (M.length + 0)), some (.cel (M.length + 1)), none, some (dl (nI (posN ds l))), a7, a8] (M ++ [.lst (l.map di), .lst ((acc.map encR).map .dat)])
      (.nx [s0, some (dl (encDs ds)), s2, some (.cel (M.length + 0)), some (.cel (M.length + 1)), none, none, none, none] (M ++ [.lst (l'.map di), .lst (((acc ++ ringsGo ds n l).map encR).map .dat)])) := by
  have tst : ∀ {l : List Int} {acc : List (Int × List Nat)} {a7 a8 : Sl} {b : Bool}, (b = true ↔ nI (posN ds l) = []) → EvB K (tTest (tOp (rNeD K) (tVar 6) (tLst tNil))) [s0, some (dl (encDs ds)), s2, some (.cel (M.length + 0)), some (.cel (M.length + 1)), none, some (dl (nI (posN ds l))), a7, a8] (M ++ [.lst (l.map di), .lst ((acc.map encR).map .dat)]) (!b) (M ++ [.lst (l.map di), .lst ((acc.map encR).map .dat)]) := fun {l acc a7 a8 b} h =>
    .test (.neP 1 (.var rfl) (.lst ea_nil (Nat.le_of_ble_eq_true rfl)) (.dat _) (.dat _) (by decide) (pI_map fun _ _ => rfl) rfl (by rw [h, PyData.list.injEq]))
  have done : ∀ (m : Nat) (l : List Int) (acc : List (Int × List Nat)) (a7 a8 : Sl), (posN ds l).length = 0 → WhL K E (tTest (tOp (rNeD K) (tVar 6) (tLst tNil))) (u_rings K) (m + 1) [s0, some (dl (encDs ds)), s2, some (.cel (M.length + 0)), some (.cel (M.length + 1)), none, some (dl (nI (posN ds l))), a7, a8] (M ++ [.lst (l.map di), .lst ((acc.map encR).map .dat)])
      (.nx [s0, some (dl (encDs ds)), s2, some (.cel (M.length + 0)), some (.cel (M.length + 1)), none, none, none, none] (M ++ [.lst (l.map di), .lst (((acc ++ []).map encR).map .dat)])) := fun m l acc a7 a8 h => by
    rw [List.append_nil]
    exact .inl ⟨_, tst (b := true) (by rw [List.length_eq_zero_iff.mp h]; simp), _, .cons (.inr rfl) (.cons (.inr rfl) (.cons (.inr rfl) (.cons (.inr rfl) (.cons (.inr rfl) (.cons (.inr rfl) (.cons (.inl rfl) (.cons (.inl rfl) (.cons (.inl rfl) .nil)))))))), rfl⟩
  intro n
  induction n with
  | zero =>
    intro l acc a7 a8 k hn ha
    exact ⟨l, done 0 l acc a7 a8 (by omega)⟩
  | succ n ih =>
    intro l acc a7 a8 k hn ha
    unfold ringsGo
    by_cases q : (posN ds l).length = 0
    · rw [if_pos q]
      exact ⟨l, done (n + 1) l acc a7 a8 q⟩
    · rw [if_neg q]
      have hp : 0 < (posN ds l).length := by omega
      have R := ringOne_ok k hb hc hp
      have N := rest_nums k hb
      obtain ⟨m1, m2, m3⟩ := ringK_ok k hb hc hp
      obtain ⟨f1, f2⟩ := ringRest_get k hb hc hp
      have hless := posN_less k hb hc hp
      have hr : ∀ m ∈ ringOne ds l, m < l.length := fun m hm => by rw [k.len]; exact (posN_mem.mp (R.mem m hm)).1
      have hrl := ringR_len R N
      have hpl := posN_le ds l
      have hm0 := getD_memN hp
      obtain ⟨l', i⟩ := ih (ringRest ds l) (acc ++ [(ringK ds l, ringOne ds l)]) (some (dl (nI (ringOne ds l)))) (some (di (ringK ds l))) (k.step hb hc hp) (by omega) (by rw [List.length_append, List.length_singleton]; omega)
      rw [List.append_assoc, List.singleton_append] at i
      have turn : Big K E (u_rings K) [s0, some (dl (encDs ds)), s2, some (.cel (M.length + 0)), some (.cel (M.length + 1)), none, some (dl (nI (posN ds l))), a7, a8] (M ++ [.lst (l.map di), .lst ((acc.map encR).map .dat)])
          (.nx [s0, some (dl (encDs ds)), s2, some (.cel (M.length + 0)), some (.cel (M.length + 1)), none, some (dl (nI (posN ds (ringRest ds l)))), some (dl (nI (ringOne ds l))), some (di (ringK ds l))] (M ++ [.lst ((ringRest ds l).map di), .lst (((acc ++ [(ringK ds l, ringOne ds l)]).map encR).map .dat)])) := by
        refine .st (.call (ea_cons (.var rfl) (ea_cons (.var rfl) (ea_cons (.debtA (n := (posN ds l).getD 0 0) (.var rfl) (.numI (k := 0) (.var rfl) .int rfl hp) (posN_mem.mp hm0).1) ea_nil))) ⟨c, ds, posN ds l, _, rfl, hc, by omega, N, ⟨_, hm0, rfl⟩, rfl⟩)
          (.st (w := di (ringK ds l)) (.minL (w := dl (iI ((ringOne ds l).map fun n => l.getD n 0))) (ns := (ringOne ds l).map fun n => l.getD n 0) ?_ lst_iI m1 (fun y hy => ?_)) (.seq (s1 := [s0, some (dl (encDs ds)), s2, some (.cel (M.length + 0)), some (.cel (M.length + 1)), none, some (dl (nI (posN ds l))), some (dl (nI (ringOne ds l))), some (di (ringK ds l))]) (M1 := M ++ [.lst ((ringRest ds l).map di), .lst ((acc.map encR).map .dat)]) (.forL (.var rfl) ?_) (.seq (.appendL (k := 1) (w := .dat (encR (ringK ds l, ringOne ds l))) (.var rfl) (.tup (ed_cons (.var rfl) (ed_cons (.var rfl) ea_nil)) (Nat.le_of_ble_eq_true rfl)) rfl ?_) ?_)))
        · refine Ev.is (Ev.lcL1 (xs := ringOne ds l) (enc := natW) (f := fun n => PyData.int (l.getD n 0)) (.var rfl) lst_nI (by omega) fun m hm => .ixG (.var rfl) (.var rfl) (.lst (.cel (getL (n := 0) rfl)) (atI_map (atI_nat (getD_some (hr m hm)))))) ?_
          unfold iI
          rw [List.map_map] <;> rfl
        · obtain ⟨m, hm, e⟩ := List.mem_map.mp hy
          rw [← e]
          exact m2 m hm
        · rw [nI_dat]
          exact rless_loop (ringOne ds l) l none hr
        · rw [List.length_map, List.length_map]
          omega
        · have e : ((acc ++ [(ringK ds l, ringOne ds l)]).map encR).map W.dat = (acc.map encR).map W.dat ++ [.dat (encR (ringK ds l, ringOne ds l))] := by
            rw [List.map_append, List.map_append] <;> rfl
          rw [e]
          exact .asg (n := 6) (s := [s0, some (dl (encDs ds)), s2, some (.cel (M.length + 0)), some (.cel (M.length + 1)), none, some (dl (nI (posN ds l))), some (dl (nI (ringOne ds l))), some (di (ringK ds l))]) (nums_ev (M := M) (l := ringRest ds l) hl (by rw [f1, k.len]) rfl rfl (Nat.le_of_ble_eq_true rfl))
      exact ⟨l', .inr ⟨_, _, tst (b := false) (by
        constructor
        · intro z; cases z
        · intro z
          have := congrArg List.length z
          rw [List.length_map] at this
          exact absurd this q), turn, i⟩⟩
theorem big_rings (h : T_rings X M ws o) : BigF K E (t_rings K E X) (args 9 ws) M o := by
  obtain ⟨c, ds, d, rfl, hc, hl, hb, ⟨f, h, rfl⟩ | ⟨C, h, rfl⟩⟩ := h
  · cases h with
    | ok k he =>
      obtain ⟨l', i⟩ := rings_loop (K := K) (E := E) (M := M) (s0 := some (di c)) (s2 := some (dl (iI f))) hc hl hb (posN ds f).length f [] none none (rest_of_cut k hb he) (Nat.le_refl _) (by have := posN_le ds f; simp; omega)
      rw [List.nil_append] at i
      refine .dat (N0 := [.lst (l'.map di), .dead]) (.seq (even_yes k he (by omega) hl hb (.var rfl) (.var rfl) (.var rfl)) (.seq (s1 := [some (di c), some (dl (encDs ds)), some (dl (iI f)), some (.cel (M.length + 0)), none, none, none, none, none]) (M1 := M ++ [.lst (f.map di)]) (.asg (.listC (.var rfl) lst_iI))
        (.seq (s1 := [some (di c), some (dl (encDs ds)), some (dl (iI f)), some (.cel (M.length + 0)), some (.cel (M.length + 1)), none, none, none, none]) (M1 := M ++ [.lst (f.map di), .lst ((([] : List (Int × List Nat)).map encR).map .dat)]) (.newL (.lstC ea_nil (by decide))) (.st (w := dl (nI (posN ds f))) (nums_ev hl k.len rfl rfl (Nat.le_of_ble_eq_true rfl)) (.seq (.whl i) (.ret (.frzL (k := 1) (.var rfl) rfl)))))))
  · exact .raise (N0 := []) (.is (.seqZ (even_no h (by omega) hl hb (.var rfl) (.var rfl) (.var rfl))) (by rw [List.append_nil]))
end
end Bk

set_option Elab.async false
set_option linter.all false
set_option maxRecDepth 100000
set_option maxHeartbeats 4000000
/-! C07: moves, climbed, prices, better -/
namespace Bk
open PySem L2 Vx HotP
abbrev encW (r : Rw) : PyData := .tuple [.int (r.f : Int), .int (r.t : Int), .int r.w, .int (r.n : Int), .int r.r]
def encO : Option Rw → PyData
  | none => .none
  | some r => encW r
def encN : Option Nat → PyData
  | none => .none
  | some n => .int (n : Int)
section
variable {K : PySem.W.Frag} {E : XK} {M M1 M2 : List Cell} {s : List Sl} {ws : List W} {o : Res} {X : Xs} {ta tb : TE}
def T_moves (M : List Cell) (ws : List W) (o : Res) : Prop := ∃ (ds : List Dt) (f : List Int) (w : W), ws = [dl (encDs ds), w] ∧ LstOf M w (f.map di) ∧ f.length = ds.length ∧ ds.length ≤ 1000 ∧ o = .ret (dl ((movesOf ds f).map encW)) M
def v_moves (K : PySem.W.Frag) : TS := (tSeq (tIfS (tTest (tOp xLt (tOp (rIx K) (tVar 1) (tVar 3)) (tVar 6))) (tDrop (tBM K "list" rAppend (tVar 2) (tCons (tTup (tCons (tVar 4) (tCons (tVar 5) (tCons (tC (.int 1)) (tCons (tVar 3) (tCons (tOp xSub (tVar 6) (tOp (rIx K) (tVar 1) (tVar 3))) tNil)))))) tNil))) tNext)
    (tIfS (tTest (tOp xGt (tOp (rIx K) (tVar 1) (tVar 3)) (tC (.int 0)))) (tDrop (tBM K "list" rAppend (tVar 2) (tCons (tTup (tCons (tVar 5) (tCons (tVar 4) (tCons (tUn xNeg (tC (.int 1))) (tCons (tVar 3) (tCons (tOp (rIx K) (tVar 1) (tVar 3)) tNil)))))) tNil))) tNext))
def u_moves (K : PySem.W.Frag) : TS := (tSeq (tAsg (tOp (rIx K) (tVar 0) (tVar 3)) (gTup K 3 (gCons (gName 4) (gCons (gName 5) (gCons (gName 6) gNil)))))
    (v_moves K))
def t_moves (K : PySem.W.Frag) : TS := (tSeq (tAsg (tLst tNil) (gName 2))
    (tSeq (tFor (iRng1 (tCons (tCB (rLenX K) (tCons (tVar 0) tNil)) tNil)) (gName 3) (u_moves K))
    (tRet (tVar 2))))
theorem encW_snoc {acc : List Rw} {r : Rw} : ((acc ++ [r]).map encW).map W.dat = (acc.map encW).map W.dat ++ [.dat (encW r)] := by
  rw [List.map_append, List.map_append] <;> rfl
theorem moves_turn {ds : List Dt} {f : List Int} {w : W} {s0 : Sl} {n : Nat} {acc : List Rw} (hw : LstOf M w (f.map di)) (hn : n < f.length) (ha : acc.length ≤ 5000) :
    Big K E (v_moves K) [s0, some w, some (.cel (M.length + 0)), some (natW n), some (di (dA ds n)), some (di (dB ds n)), some (di (dM ds n))] (M ++ [.lst ((acc.map encW).map .dat)])
      (.nx [s0, some w, some (.cel (M.length + 0)), some (natW n), some (di (dA ds n)), some (di (dB ds n)), some (di (dM ds n))] (M ++ [.lst (((acc ++ movesAt ds f n).map encW).map .dat)])) := by
  have ix : ∀ {L : List Cell}, Ev K (tOp (rIx K) (tVar 1) (tVar 3)) [s0, some w, some (.cel (M.length + 0)), some (natW n), some (di (dA ds n)), some (di (dB ds n)), some (di (dM ds n))] (M ++ L) (di (f.getD n 0)) (M ++ L) := fun {L} => .ixG (.var rfl) (.var rfl) (.lst hw.app (atI_map (atI_nat (getD_some hn))))
  have la : ∀ {acc : List Rw}, acc.length ≤ 5001 → ((acc.map encW).map W.dat).length ≤ 100000 := fun {acc} h => by
    rw [List.length_map, List.length_map]
    omega
  have a1 : ∀ {acc : List Rw}, acc.length ≤ 5001 → Big K E (tDrop (tBM K "list" rAppend (tVar 2) (tCons (tTup (tCons (tVar 4) (tCons (tVar 5) (tCons (tC (.int 1)) (tCons (tVar 3) (tCons (tOp xSub (tVar 6) (tOp (rIx K) (tVar 1) (tVar 3))) tNil)))))) tNil))) [s0, some w, some (.cel (M.length + 0)), some (natW n), some (di (dA ds n)), some (di (dB ds n)), some (di (dM ds n))] (M ++ [.lst ((acc.map encW).map .dat)])
      (.nx [s0, some w, some (.cel (M.length + 0)), some (natW n), some (di (dA ds n)), some (di (dB ds n)), some (di (dM ds n))] (M ++ [.lst (((acc ++ [(⟨dA ds n, dB ds n, 1, n, dM ds n - f.getD n 0⟩ : Rw)]).map encW).map .dat)])) := fun {acc} h => by
    rw [encW_snoc]
    exact .appendL (k := 0) (w := .dat (encW ⟨dA ds n, dB ds n, 1, n, dM ds n - f.getD n 0⟩)) (.var rfl) (.tup (ed_cons (.var rfl) (ed_cons (.var rfl) (ed_cons .int (ed_cons (.var rfl) (ed_cons (.sub (.var rfl) ix) ea_nil))))) (Nat.le_of_ble_eq_true rfl)) rfl (la h)
  have a2 : ∀ {acc : List Rw}, acc.length ≤ 5001 → Big K E (tDrop (tBM K "list" rAppend (tVar 2) (tCons (tTup (tCons (tVar 5) (tCons (tVar 4) (tCons (tUn xNeg (tC (.int 1))) (tCons (tVar 3) (tCons (tOp (rIx K) (tVar 1) (tVar 3)) tNil)))))) tNil))) [s0, some w, some (.cel (M.length + 0)), some (natW n), some (di (dA ds n)), some (di (dB ds n)), some (di (dM ds n))] (M ++ [.lst ((acc.map encW).map .dat)])
      (.nx [s0, some w, some (.cel (M.length + 0)), some (natW n), some (di (dA ds n)), some (di (dB ds n)), some (di (dM ds n))] (M ++ [.lst (((acc ++ [(⟨dB ds n, dA ds n, -1, n, f.getD n 0⟩ : Rw)]).map encW).map .dat)])) := fun {acc} h => by
    rw [encW_snoc]
    exact .appendL (k := 0) (w := .dat (encW ⟨dB ds n, dA ds n, -1, n, f.getD n 0⟩)) (.var rfl) (.tup (ed_cons (.var rfl) (ed_cons (.var rfl) (ed_cons (.neg .int) (ed_cons (.var rfl) (ed_cons ix ea_nil))))) (Nat.le_of_ble_eq_true rfl)) rfl (la h)
  have t1 : ∀ {L : List Cell}, EvB K (tTest (tOp xLt (tOp (rIx K) (tVar 1) (tVar 3)) (tVar 6))) [s0, some w, some (.cel (M.length + 0)), some (natW n), some (di (dA ds n)), some (di (dB ds n)), some (di (dM ds n))] (M ++ L) (decide (f.getD n 0 < dM ds n)) (M ++ L) := fun {L} => .test (.lt ix (.var rfl))
  have t2 : ∀ {L : List Cell}, EvB K (tTest (tOp xGt (tOp (rIx K) (tVar 1) (tVar 3)) (tC (.int 0)))) [s0, some w, some (.cel (M.length + 0)), some (natW n), some (di (dA ds n)), some (di (dB ds n)), some (di (dM ds n))] (M ++ L) (decide (0 < f.getD n 0)) (M ++ L) := fun {L} => .test (.gt ix .int)
  unfold movesAt
  by_cases q1 : f.getD n 0 < dM ds n
  · rw [if_pos q1]
    by_cases q2 : 0 < f.getD n 0
    · rw [if_pos q2, ← List.append_assoc]
      exact .seqIte t1 (fun _ => .seq (a1 (by omega)) (.ite t2 (fun _ => a2 (by rw [List.length_append, List.length_singleton]; omega)) fun z => absurd q2 (of_decide_eq_false z))) fun z => absurd q1 (of_decide_eq_false z)
    · rw [if_neg q2, List.append_nil]
      exact .seqIte t1 (fun _ => .seq (a1 (by omega)) (.ite t2 (fun z => absurd (of_decide_eq_true z) q2) fun _ => .next)) fun z => absurd q1 (of_decide_eq_false z)
  · rw [if_neg q1, List.nil_append]
    by_cases q2 : 0 < f.getD n 0
    · rw [if_pos q2]
      exact .seqIte t1 (fun z => absurd (of_decide_eq_true z) q1) fun _ => .seqN (.ite t2 (fun _ => a2 (by omega)) fun z => absurd q2 (of_decide_eq_false z))
    · rw [if_neg q2, List.append_nil]
      exact .seqIte t1 (fun z => absurd (of_decide_eq_true z) q1) fun _ => .seqN (.ite t2 (fun z => absurd (of_decide_eq_true z) q2) fun _ => .next)
theorem movesAt_len {ds : List Dt} {f : List Int} {n : Nat} : (movesAt ds f n).length ≤ 2 := by
  unfold movesAt
  split <;> split <;> simp
theorem moves_loop {ds : List Dt} {f : List Int} {w : W} (hw : LstOf M w (f.map di)) (hf : f.length = ds.length) : ∀ (l : List Nat) (acc : List Rw) (a3 a4 a5 a6 : Sl), (∀ n ∈ l, n < ds.length) → acc.length + 2 * l.length ≤ 4000 →
    ForL K E (gName 3) (u_moves K) (l.map natW) [some (dl (encDs ds)), some w, some (.cel (M.length + 0)), a3, a4, a5, a6] (M ++ [.lst ((acc.map encW).map .dat)])
      (.nx [some (dl (encDs ds)), some w, some (.cel (M.length + 0)), none, none, none, none] (M ++ [.lst (((acc ++ l.flatMap (movesAt ds f)).map encW).map .dat)]))
  | [], acc, a3, a4, a5, a6, _, _ => ⟨_, .cons (.inr rfl) (.cons (.inr rfl) (.cons (.inr rfl) (.cons (.inl rfl) (.cons (.inl rfl) (.cons (.inl rfl) (.cons (.inl rfl) .nil)))))), by rw [List.flatMap_nil, List.append_nil]⟩
  | n :: l, acc, a3, a4, a5, a6, h, hl => by
    have hn := h n List.mem_cons_self
    rw [List.length_cons] at hl
    have h2 := movesAt_len (ds := ds) (f := f) (n := n)
    refine ⟨_, .name (.seq (.unpack3 (x := .int (dA ds n)) (y := .int (dB ds n)) (z := .int (dM ds n)) (.ixG (.var rfl) (.var rfl) (.map (f := encD) (x := ds.getD n d0) (at_nat hn)))) (moves_turn hw (by omega) (by omega))), ?_⟩
    have ih := moves_loop hw hf l (acc ++ movesAt ds f n) (some (natW n)) (some (di (dA ds n))) (some (di (dB ds n))) (some (di (dM ds n))) (fun m hm => h m (List.mem_cons_of_mem _ hm)) (by rw [List.length_append]; omega)
    rw [List.append_assoc] at ih
    rw [List.flatMap_cons]
    exact ih
theorem big_moves (h : T_moves M ws o) : BigF K E (t_moves K) (args 7 ws) M o := by
  obtain ⟨ds, f, w, rfl, hw, hf, hl, rfl⟩ := h
  have q := moves_loop (K := K) (E := E) hw hf (List.range ds.length) [] none none none none (fun n hn => List.mem_range.mp hn) (by rw [List.length_range, List.length_nil]; omega)
  rw [List.nil_append] at q
  refine .dat (N0 := [.dead]) (.seq (s1 := [some (dl (encDs ds)), some w, some (.cel (M.length + 0)), none, none, none, none]) (M1 := M ++ [.lst ((([] : List Rw).map encW).map .dat)]) (.asg (.lstC ea_nil (by decide)))
    (.seq (s1 := [some (dl (encDs ds)), some w, some (.cel (M.length + 0)), none, none, none, none]) (M1 := M ++ [.lst (((movesOf ds f).map encW).map .dat)]) (.forR (n := (ds.length : Int)) (ea_cons (.lenG (.var rfl) .map) ea_nil) (by omega) (by omega) ?_) (.ret (.frzL (k := 0) (.var rfl) rfl))))
  exact q
def T_climbed (M : List Cell) (ws : List W) (o : Res) : Prop := ∃ (c : Nat) (rows : List Rw), ws = [di c, dl (rows.map encW)] ∧ c ≤ 900 ∧ RowsOk c rows ∧ o = .ret (dt [.list (iI (climbed c rows).h), .list ((climbed c rows).l.map encO), encN (climbed c rows).ri]) M
def v_climbed (K : PySem.W.Frag) : TS := (tIfS (tTest (tOp xGt (tOp xAdd (tOp (rIx K) (tVar 2) (tOp (rIx K) (tVar 6) (tC (.int 0)))) (tOp (rIx K) (tVar 6) (tC (.int 2)))) (tOp (rIx K) (tVar 2) (tOp (rIx K) (tVar 6) (tC (.int 1)))))) (tSeq (tAsg (tOp xAdd (tOp (rIx K) (tVar 2) (tOp (rIx K) (tVar 6) (tC (.int 0)))) (tOp (rIx K) (tVar 6) (tC (.int 2)))) (gSub (tVar 2) (tOp (rIx K) (tVar 6) (tC (.int 1))) rSetL))
    (tSeq (tAsg (tVar 6) (gSub (tVar 3) (tOp (rIx K) (tVar 6) (tC (.int 1))) rSetL))
    (tAsg (tOp (rIx K) (tVar 6) (tC (.int 1))) (gName 4)))) tNext)
def u_climbed (K : PySem.W.Frag) : TS := (tSeq (tAsg (tC .non) (gName 4))
    (tSeq (tFor (iList K (tVar 1)) (gName 6) (v_climbed K))
    (tIfS (tTest (tOp rIsN (tVar 4) (tC .non))) tBreak tNext)))
def t_climbed (K : PySem.W.Frag) : TS := (tSeq (tAsg (tOp rRep (tLst (tCons (tC (.int 0)) tNil)) (tVar 0)) (gName 2))
    (tSeq (tAsg (tOp rRep (tLst (tCons (tC .non) tNil)) (tVar 0)) (gName 3))
    (tSeq (tAsg (tC .non) (gName 4))
    (tSeq (tFor (iRng1 (tCons (tOp xAdd (tVar 0) (tC (.int 1))) tNil)) (gName 5) (u_climbed K))
    (tRet (tTup (tCons (tVar 2) (tCons (tVar 3) (tCons (tVar 4) tNil)))))))))
def clL (s : CS) : List Cell := [.lst (s.h.map di), .lst ((s.l.map encO).map .dat)]
theorem climb_in {c : Nat} {s0 s1 a5 : Sl} : ∀ (rows : List Rw) (s : CS) (a6 : Sl), (∀ r ∈ rows, r.f < c ∧ r.t < c) → s.h.length = c → s.l.length = c →
    ForL K E (gName 6) (v_climbed K) ((rows.map encW).map .dat) [s0, s1, some (.cel (M.length + 0)), some (.cel (M.length + 1)), some (.dat (encN s.ri)), a5, a6] (M ++ clL s)
      (.nx [s0, s1, some (.cel (M.length + 0)), some (.cel (M.length + 1)), some (.dat (encN (rows.foldl relx s).ri)), a5, none] (M ++ clL (rows.foldl relx s)))
  | [], s, a6, _, _, _ => ⟨_, .cons (.inr rfl) (.cons (.inr rfl) (.cons (.inr rfl) (.cons (.inr rfl) (.cons (.inr rfl) (.cons (.inr rfl) (.cons (.inl rfl) .nil)))))), rfl⟩
  | r :: rows, s, a6, h, hh, hl => by
    obtain ⟨hf, ht⟩ := h r List.mem_cons_self
    have ih := fun a6 => climb_in (c := c) (s0 := s0) (s1 := s1) (a5 := a5) rows (relx s r) a6 (fun x hx => h x (List.mem_cons_of_mem _ hx)) (by rw [relx_len.1, hh]) (by rw [relx_len.2, hl])
    have gh : ∀ {v : Nat}, v < c → s.h[v]? = some (s.h.getD v 0) := fun {v} hv => getD_some (by omega)
    have e1 : Ev K (tOp xAdd (tOp (rIx K) (tVar 2) (tOp (rIx K) (tVar 6) (tC (.int 0)))) (tOp (rIx K) (tVar 6) (tC (.int 2)))) [s0, s1, some (.cel (M.length + 0)), some (.cel (M.length + 1)), some (.dat (encN s.ri)), a5, some (.dat (encW r))] (M ++ clL s) (di (s.h.getD r.f 0 + r.w)) (M ++ clL s) :=
      .add (.ixG (.var rfl) (.ixG (w1 := di (r.f : Int)) (.var rfl) .int (.tup rfl)) (.lst (.cel (ws := s.h.map di) (getL (n := 0) rfl)) (atI_map (atI_nat (gh hf))))) (.ixG (w1 := di r.w) (.var rfl) .int (.tup rfl))
    have tt : EvB K (tTest (tOp xGt (tOp xAdd (tOp (rIx K) (tVar 2) (tOp (rIx K) (tVar 6) (tC (.int 0)))) (tOp (rIx K) (tVar 6) (tC (.int 2)))) (tOp (rIx K) (tVar 2) (tOp (rIx K) (tVar 6) (tC (.int 1)))))) [s0, s1, some (.cel (M.length + 0)), some (.cel (M.length + 1)), some (.dat (encN s.ri)), a5, some (.dat (encW r))] (M ++ clL s) (decide (s.h.getD r.t 0 < s.h.getD r.f 0 + r.w)) (M ++ clL s) :=
      .test (.gt e1 (.ixG (.var rfl) (.ixG (w1 := di (r.t : Int)) (.var rfl) .int (.tup rfl)) (.lst (.cel (ws := s.h.map di) (getL (n := 0) rfl)) (atI_map (atI_nat (gh ht))))))
    rw [List.foldl_cons]
    by_cases q : s.h.getD r.t 0 < s.h.getD r.f 0 + r.w
    · have e : relx s r = ⟨s.h.set r.t (s.h.getD r.f 0 + r.w), s.l.set r.t (some r), some r.t⟩ := by
        unfold relx
        rw [if_pos q]
      rw [e] at ih ⊢
      refine ⟨.nx [s0, s1, some (.cel (M.length + 0)), some (.cel (M.length + 1)), some (.dat (encN (some r.t))), a5, some (.dat (encW r))] (M ++ clL ⟨s.h.set r.t (s.h.getD r.f 0 + r.w), s.l.set r.t (some r), some r.t⟩), .name (.ite tt (fun _ => ?_) fun z => absurd q (of_decide_eq_false z)), ih _⟩
      refine .seq (s1 := [s0, s1, some (.cel (M.length + 0)), some (.cel (M.length + 1)), some (.dat (encN s.ri)), a5, some (.dat (encW r))]) (M1 := M ++ [.lst ((s.h.map di).set r.t (di (s.h.getD r.f 0 + r.w))), .lst ((s.l.map encO).map .dat)]) (.setItemL (k := 0) (w := di (s.h.getD r.f 0 + r.w)) (i := (r.t : Int)) (n := r.t) e1 (.var rfl) (.ixG (w1 := di (r.t : Int)) (.var rfl) .int (.tup rfl)) rfl ?_)
        (.seq (s1 := [s0, s1, some (.cel (M.length + 0)), some (.cel (M.length + 1)), some (.dat (encN s.ri)), a5, some (.dat (encW r))]) (M1 := M ++ [.lst ((s.h.map di).set r.t (di (s.h.getD r.f 0 + r.w))), .lst (((s.l.map encO).map .dat).set r.t (.dat (encW r)))]) (.setItemL (k := 1) (w := .dat (encW r)) (i := (r.t : Int)) (n := r.t) (.var rfl) (.var rfl) (.ixG (w1 := di (r.t : Int)) (.var rfl) .int (.tup rfl)) rfl ?_) (.is (.asg (n := 4) (s := [s0, s1, some (.cel (M.length + 0)), some (.cel (M.length + 1)), some (.dat (encN s.ri)), a5, some (.dat (encW r))]) (.ixG (w1 := di (r.t : Int)) (.var rfl) .int (.tup rfl))) ?_))
      · rw [List.length_map]
        exact ixN_nat (by omega)
      · rw [List.length_map, List.length_map]
        exact ixN_nat (by omega)
      · unfold clL
        rw [set_map_di, show ((s.l.set r.t (some r)).map encO).map W.dat = ((s.l.map encO).map W.dat).set r.t (.dat (encW r)) from by rw [List.map_set, List.map_set] <;> rfl] <;> rfl
    · have e : relx s r = s := by
        unfold relx
        rw [if_neg q]
      rw [e] at ih ⊢
      exact ⟨_, .name (.ite tt (fun z => absurd (of_decide_eq_true z) q) fun _ => .next), ih _⟩
theorem isNon_encN {o : Option Nat} : isNon (.dat (encN o)) = decide (o = none) := by
  cases o <;> rfl
theorem climb_out {c : Nat} {rows : List Rw} (R : RowsOk c rows) : ∀ (l : List Nat) (s : CS) (a4 a5 : Sl), s.h.length = c → s.l.length = c →
    (s.ri ≠ none → a4 = some (.dat (encN s.ri))) → (l = [] → s.ri ≠ none) →
    ForL K E (gName 5) (u_climbed K) (l.map natW) [some (di c), some (dl (rows.map encW)), some (.cel (M.length + 0)), some (.cel (M.length + 1)), a4, a5, none] (M ++ clL s)
      (.nx [some (di c), some (dl (rows.map encW)), some (.cel (M.length + 0)), some (.cel (M.length + 1)), some (.dat (encN (climb rows l.length s).ri)), none, none] (M ++ clL (climb rows l.length s)))
  | [], s, a4, a5, _, _, ha, h0 => by
    rw [ha (h0 rfl)]
    exact ⟨_, .cons (.inr rfl) (.cons (.inr rfl) (.cons (.inr rfl) (.cons (.inr rfl) (.cons (.inr rfl) (.cons (.inl rfl) (.cons (.inr rfl) .nil)))))), rfl⟩
  | k :: l, s, a4, a5, hh, hl, _, _ => by
    have inn := climb_in (K := K) (E := E) (M := M) (c := c) (s0 := some (di c)) (s1 := some (dl (rows.map encW))) (a5 := some (natW k)) rows { s with ri := none } none (fun r hr => ⟨R.f r hr, R.t r hr⟩) hh hl
    obtain ⟨l1, l2⟩ := fold_len2 rows { s with ri := none }
    have tt : EvB K (tTest (tOp rIsN (tVar 4) (tC .non))) [some (di c), some (dl (rows.map encW)), some (.cel (M.length + 0)), some (.cel (M.length + 1)), some (.dat (encN (rnd rows s).ri)), some (natW k), none] (M ++ clL (rnd rows s)) (decide ((rnd rows s).ri = none)) (M ++ clL (rnd rows s)) :=
      .test (.is (.isN (w1 := .dat (encN (rnd rows s).ri)) (.var rfl) .non) (by rw [isNon_encN]))
    rw [List.length_cons]
    unfold climb
    by_cases q : (rnd rows s).ri = none
    · rw [if_pos q]
      refine ⟨.bk [some (di c), some (dl (rows.map encW)), some (.cel (M.length + 0)), some (.cel (M.length + 1)), some (.dat (encN (rnd rows s).ri)), none, none] (M ++ clL (rnd rows s)), .name (.st .non (.seq (.forL (.var rfl) inn) (.ite tt (fun _ => ?_) fun z => absurd q (of_decide_eq_false z)))), rfl⟩
      exact brk_weak (.cons (.inr rfl) (.cons (.inr rfl) (.cons (.inr rfl) (.cons (.inr rfl) (.cons (.inr rfl) (.cons (.inl rfl) (.cons (.inr rfl) .nil)))))))
    · rw [if_neg q]
      exact ⟨.nx [some (di c), some (dl (rows.map encW)), some (.cel (M.length + 0)), some (.cel (M.length + 1)), some (.dat (encN (rnd rows s).ri)), some (natW k), none] (M ++ clL (rnd rows s)), .name (.st .non (.seq (.forL (.var rfl) inn) (.ite tt (fun z => absurd (of_decide_eq_true z) q) fun _ => .next))), climb_out R l (rnd rows s) _ _ (l1.trans hh) (l2.trans hl) (fun _ => rfl) (fun _ => q)⟩
where brk_weak {s s1 : List Sl} {N : List Cell} (h : Vx.Sub s s1) : Big K E tBreak s N (.bk s1 N) := fun G al σ H D k r p => p σ G al H k .refl (r.weak h)
theorem big_climbed (h : T_climbed M ws o) : BigF K E (t_climbed K) (args 7 ws) M o := by
  obtain ⟨c, rows, rfl, hc, R, rfl⟩ := h
  have q := climb_out (K := K) (E := E) (M := M) R (List.range (c + 1)) ⟨List.replicate c 0, List.replicate c none, none⟩ (some dn) none List.length_replicate List.length_replicate (fun h => absurd rfl h) (fun h => by rw [List.range_succ] at h; simp at h)
  rw [List.length_range] at q
  refine .dat (N0 := [.dead, .dead]) (.seq (s1 := [some (di c), some (dl (rows.map encW)), some (.cel (M.length + 0)), none, none, none, none]) (M1 := M ++ [.lst ((List.replicate c (0 : Int)).map di)]) (.asg ?_) (.seq (s1 := [some (di c), some (dl (rows.map encW)), some (.cel (M.length + 0)), some (.cel (M.length + 1)), none, none, none]) (M1 := M ++ clL ⟨List.replicate c 0, List.replicate c none, none⟩) (.newL ?_)
    (.st .non (.seq (s1 := [some (di c), some (dl (rows.map encW)), some (.cel (M.length + 0)), some (.cel (M.length + 1)), some (.dat (encN (climbed c rows).ri)), none, none]) (M1 := M ++ clL (climbed c rows)) (.forR (n := (c : Int) + 1) (ea_cons (.add (.var rfl) .int) ea_nil) (by omega) (by omega) ?_) (.ret (.tup (ed_cons (M1 := M ++ [.dead, .lst (((climbed c rows).l.map encO).map .dat)]) (.frzL (k := 0) (L := clL (climbed c rows)) (ds := iI (climbed c rows).h) (.var rfl) ?_) (ed_cons (M1 := M ++ [.dead, .dead]) (.frzL (k := 1) (L := [.dead, .lst (((climbed c rows).l.map encO).map .dat)]) (ds := (climbed c rows).l.map encO) (.var rfl) rfl) (ed_cons (.var rfl) ea_nil))) (Nat.le_of_ble_eq_true rfl)))))))
  · rw [List.map_replicate]
    exact .is (.isM (.repC .int (.var rfl) (by omega)) (by rw [show (c : Int).toNat = c by omega])) rfl
  · have e2 := Ev.repC (K := K) (M := M ++ [.lst ((List.replicate c (0 : Int)).map di)]) (s := [some (di c), some (dl (rows.map encW)), some (.cel (M.length + 0)), none, none, none, none]) (ta := tC .non) (tb := tVar 0) (d := .none) (i := (c : Int)) .non (.var rfl) (by omega)
    rw [show (c : Int).toNat = c by omega] at e2
    have e3 : List.replicate c (W.dat .none) = ((List.replicate c (none : Option Rw)).map encO).map W.dat := by
      rw [List.map_replicate, List.map_replicate] <;> rfl
    rw [e3] at e2
    exact e2
  · rw [show ((c : Int) + 1).toNat = c + 1 by omega]
    exact q
  · rw [map_dat_ints] <;> rfl
end
end Bk

set_option Elab.async false
set_option linter.all false
set_option maxRecDepth 100000
set_option maxHeartbeats 4000000
/-! D07: prices, better -/
namespace Bk
open PySem L2 Vx HotP
section
variable {K : PySem.W.Frag} {E : XK} {M M1 M2 : List Cell} {s : List Sl} {ws : List W} {o : Res} {X : Xs} {ta tb : TE}
abbrev clS (c : Nat) (ds : List Dt) (f : List Int) : CS := climbed c (movesOf ds f)
def T_prices (X : Xs) (M : List Cell) (ws : List W) (o : Res) : Prop := ∃ (c : Nat) (ds : List Dt) (d : PyData), ws = [di c, dl (encDs ds), .dat d] ∧ c ≤ 20 ∧ ds.length ≤ 1000 ∧ Book c ds ∧ ((∃ C, EvenR X c ds d (some (.inr C)) ∧ o = .rz (.ref C) M) ∨
  (∃ f, EvenR X c ds d (some (.inl f)) ∧ (clS c ds f).ri = none ∧ o = .ret (dl (iI (clS c ds f).h)) M) ∨ ∃ f, EvenR X c ds d (some (.inl f)) ∧ (clS c ds f).ri ≠ none ∧ o = .rz (.ref X.NotBest) M)
def t_prices (K : PySem.W.Frag) (E : XK) (X : Xs) : TS := (tSeq (tDrop (tCall (spOf K (T_need_even X)) [] E (tCons (tVar 0) (tCons (tVar 1) (tCons (tVar 2) tNil)))))
    (tSeq (tAsg (tCall (spOf K T_climbed) [] E0 (tCons (tVar 0) (tCons (tCall (spOf K T_moves) [] E0 (tCons (tVar 1) (tCons (tVar 2) tNil))) tNil))) (gTup K 3 (gCons (gName 3) (gCons (gName 4) (gCons (gName 5) gNil)))))
    (tSeq (tIfS (tTest (tOp rNotN (tVar 5) (tC .non))) (tRz E X.NotBest) tNext)
    (tRet (tVar 3)))))
theorem climb_call {c : Nat} {ds : List Dt} {f : List Int} {s : List Sl} {a b e : TE} (B : Book c ds) (hf : f.length = ds.length) (ha : Ev K a s M (di c) M) (hb : Ev K b s M (dl (encDs ds)) M) (he : Ev K e s M (dl (iI f)) M) :
    Ev K (tCall (spOf K T_climbed) [] E0 (tCons a (tCons (tCall (spOf K T_moves) [] E0 (tCons b (tCons e tNil))) tNil))) s M (dt [.list (iI (clS c ds f).h), .list ((clS c ds f).l.map encO), encN (clS c ds f).ri]) M := by
  have h1 := B.hi
  have h2 := B.len
  exact .call (ea_cons ha (ea_cons (.call (ea_cons hb (ea_cons he ea_nil)) ⟨ds, f, _, rfl, lst_iI, hf, by omega, rfl⟩) ea_nil)) ⟨c, movesOf ds f, rfl, by omega, moves_rows B, rfl⟩
theorem big_prices (h : T_prices X M ws o) : BigF K E (t_prices K E X) (args 6 ws) M o := by
  obtain ⟨c, ds, d, rfl, hc, hl, B, ⟨C, h, rfl⟩ | ⟨f, h, hn, rfl⟩ | ⟨f, h, hn, rfl⟩⟩ := h
  · exact .raise (N0 := []) (.is (.seqZ (even_no h (by omega) hl B.ab (.var rfl) (.var rfl) (.var rfl))) (by rw [List.append_nil]))
  · cases h with
    | ok k he =>
      exact .rt (.seq (even_yes k he (by omega) hl B.ab (.var rfl) (.var rfl) (.var rfl)) (.seq (.unpack3 (climb_call B k.len (.var rfl) (.var rfl) (.var rfl))) (.seqIte (b := false) (.test (.is (.notN (w1 := .dat (encN (clS c ds f).ri)) (.var rfl) .non) (by rw [isNon_encN, decide_eq_true hn] <;> rfl))) (fun z => nomatch z) fun _ => .seqN (.ret (.var rfl)))))
  · cases h with
    | ok k he =>
      exact .raise (N0 := []) (.is (.seq (even_yes k he (by omega) hl B.ab (.var rfl) (.var rfl) (.var rfl)) (.seq (.unpack3 (climb_call B k.len (.var rfl) (.var rfl) (.var rfl))) (.seqIte (b := true) (.test (.is (.notN (w1 := .dat (encN (clS c ds f).ri)) (.var rfl) .non) (by rw [isNon_encN, decide_eq_false hn] <;> rfl))) (fun _ => .seqZ .rz) fun z => nomatch z))) (by rw [List.append_nil]))
def T_better (X : Xs) (M : List Cell) (ws : List W) (o : Res) : Prop := ∃ (c : Nat) (ds : List Dt) (d : PyData), ws = [di c, dl (encDs ds), .dat d] ∧ c ≤ 20 ∧ ds.length ≤ 1000 ∧ Book c ds ∧ ((∃ C, EvenR X c ds d (some (.inr C)) ∧ o = .rz (.ref C) M) ∨
  (∃ f, EvenR X c ds d (some (.inl f)) ∧ (clS c ds f).ri = none ∧ o = .ret dn M) ∨
  ∃ f v p0, EvenR X c ds d (some (.inl f)) ∧ (clS c ds f).ri = some v ∧ CycOk c (movesOf ds f) (clS c ds f) (preN (clS c ds f) c v) p0 ∧ o = .ret (dl (iI (betterCut (cycR (clS c ds f) (preN (clS c ds f) c v) p0) f))) M)
def a_better (K : PySem.W.Frag) : TS := (tAsg (tOp (rIx K) (tOp (rIx K) (tVar 4) (tVar 5)) (tC (.int 0))) (gName 5))
def b_better (K : PySem.W.Frag) : TS := (tDrop (tBM K "list" rAppend (tVar 7) (tCons (tOp (rIx K) (tVar 4) (tOp (rIx K) (tOp (rIx K) (tVar 7) (tUn xNeg (tC (.int 1)))) (tC (.int 0)))) tNil)))
def c_better (K : PySem.W.Frag) : TS := (tAsg (tOp xAdd (tOp (rIx K) (tVar 10) (tOp (rIx K) (tVar 8) (tC (.int 3)))) (tOp xMul (tVar 9) (tOp (rIx K) (tVar 8) (tC (.int 2))))) (gSub (tVar 10) (tOp (rIx K) (tVar 8) (tC (.int 3))) rSetL))
def r_better (K : PySem.W.Frag) : TS := (tSeq (tFor (iRng1 (tCons (tVar 0) tNil)) (gName 6) (a_better K))
    (tSeq (tAsg (tLst (tCons (tOp (rIx K) (tVar 4) (tVar 5)) tNil)) (gName 7))
    (tSeq (tWhile (tTest (tOp rNe (tOp (rIx K) (tOp (rIx K) (tVar 7) (tUn xNeg (tC (.int 1)))) (tC (.int 0))) (tVar 5))) (b_better K))
    (tSeq (tAsg (tCB (rMin K) (tCons (tLc (iList K (tVar 7)) (gName 8) tYes (tOp (rIx K) (tVar 8) (tC (.int 4))) [8]) tNil)) (gName 9))
    (tSeq (tAsg (tCB (rListX K) (tCons (tVar 2) tNil)) (gName 10))
    (tSeq (tFor (iList K (tVar 7)) (gName 8) (c_better K))
    (tRet (tVar 10))))))))
def t_better (K : PySem.W.Frag) (E : XK) (X : Xs) : TS := (tSeq (tDrop (tCall (spOf K (T_need_even X)) [] E (tCons (tVar 0) (tCons (tVar 1) (tCons (tVar 2) tNil)))))
    (tSeq (tAsg (tCall (spOf K T_climbed) [] E0 (tCons (tVar 0) (tCons (tCall (spOf K T_moves) [] E0 (tCons (tVar 1) (tCons (tVar 2) tNil))) tNil))) (gTup K 3 (gCons (gName 3) (gCons (gName 4) (gCons (gName 5) gNil)))))
    (tSeq (tIfS (tTest (tOp rIsN (tVar 5) (tC .non))) (tRet (tC .non)) tNext)
    (r_better K))))
/-- last[v] -/
theorem last_ev {S : CS} {s : List Sl} {a b : TE} {v c : Nat} {r : Rw} (hl : S.l.length = c) (hv : v < c) (h : lst S v = some r) (ha : Ev K a s M (dl (S.l.map encO)) M) (hb : Ev K b s M (natW v) M) : Ev K (tOp (rIx K) a b) s M (.dat (encW r)) M := by
  refine .ixG ha hb (.map (f := encO) (x := some r) (atI_nat ?_))
  unfold lst at h
  rw [List.getD_eq_getElem?_getD] at h
  rw [List.getElem?_eq_getElem (show v < S.l.length by omega)] at h ⊢
  exact congrArg some h
theorem back_loop {S : CS} {c : Nat} {s0 s1 s2 s3 a6 : Sl} (hl : S.l.length = c) : ∀ (n k v : Nat) (a6 : Sl), (∀ j, j < n → preN S j v < c ∧ ∃ r, lst S (preN S j v) = some r) →
    ForL K E (gName 6) (a_better K) ((List.range' k n).map natW) [s0, s1, s2, s3, some (dl (S.l.map encO)), some (natW v), a6, none, none, none, none] M (.nx [s0, s1, s2, s3, some (dl (S.l.map encO)), some (natW (preN S n v)), none, none, none, none, none] M)
  | 0, k, v, a6, _ => ⟨_, .cons (.inr rfl) (.cons (.inr rfl) (.cons (.inr rfl) (.cons (.inr rfl) (.cons (.inr rfl) (.cons (.inr rfl) (.cons (.inl rfl) (.cons (.inr rfl) (.cons (.inr rfl) (.cons (.inr rfl) (.cons (.inr rfl) .nil)))))))))), rfl⟩
  | n + 1, k, v, a6, h => by
    obtain ⟨h1, r, h2⟩ := h 0 (by omega)
    have e : pre S v = r.f := (rowOf_ok h2).2.1
    rw [List.range'_succ, List.map_cons]
    refine ⟨_, .name (.asg (.ixG (w1 := natW r.f) (last_ev hl h1 h2 (.var rfl) (.var rfl)) .int (.tup rfl))), ?_⟩
    have ih := back_loop (s0 := s0) (s1 := s1) (s2 := s2) (s3 := s3) (a6 := a6) hl n (k + 1) (pre S v) (some (natW k)) fun j hj => h (j + 1) (by omega)
    rw [e] at ih
    have e2 : preN S (n + 1) v = preN S n r.f := by
      show preN S n (pre S v) = _
      rw [e]
    rw [e2]
    exact ih
theorem cyc_loop {S : CS} {c u p0 : Nat} {rows : List Rw} {s0 s1 s2 s3 s6 : Sl} (hl : S.l.length = c) (hc : c ≤ 1000) (C : CycOk c rows S u p0) : ∀ (n j : Nat), 0 < j → j + n = p0 →
    WhL K E (tTest (tOp rNe (tOp (rIx K) (tOp (rIx K) (tVar 7) (tUn xNeg (tC (.int 1)))) (tC (.int 0))) (tVar 5))) (b_better K) (n + 1) [s0, s1, s2, s3, some (dl (S.l.map encO)), some (natW u), s6, some (.cel (M.length + 0)), none, none, none] (M ++ [.lst (((cycR S u j).map encW).map .dat)])
      (.nx [s0, s1, s2, s3, some (dl (S.l.map encO)), some (natW u), s6, some (.cel (M.length + 0)), none, none, none] (M ++ [.lst (((cycR S u p0).map encW).map .dat)])) := by
  have lastR : ∀ j, 0 < j → j ≤ p0 → ((cycR S u j).map encW).length = j ∧ ∃ r, lst S (preN S (j - 1) u) = some r ∧ atI (((cycR S u j).map encW).map W.dat) (-1) = some (.dat (encW r)) ∧ r.f = preN S j u := by
    intro j h0 hj
    obtain ⟨r, h⟩ := C.has (j - 1) (by omega)
    have hlen : ((cycR S u j).map encW).length = j := by
      unfold cycR cycV
      rw [List.length_map, List.length_map, List.length_map, List.length_range]
    refine ⟨hlen, r, h, ?_, ?_⟩
    · have hlenW : (((cycR S u j).map encW).map W.dat).length = j := by rw [List.length_map, hlen]
      have e : ixN (((cycR S u j).map encW).map W.dat).length (-1) = some (j - 1) := by
        rw [hlenW]
        unfold ixN
        simp
        omega
      unfold atI
      rw [e]
      show (((cycR S u j).map encW).map W.dat)[j - 1]? = _
      unfold cycR cycV
      rw [List.getElem?_map, List.getElem?_map, List.getElem?_map, List.getElem?_map, List.getElem?_range (by omega)]
      show some (W.dat (encW (rowOf S (preN S (j - 1) u)))) = _
      rw [(rowOf_ok h).1]
    · rw [← (rowOf_ok h).2.1, ← preN_succ, show j - 1 + 1 = j by omega]
  have tt : ∀ j, 0 < j → j ≤ p0 → ∃ r : Rw, r.f = preN S j u ∧ Ev K (tOp (rIx K) (tOp (rIx K) (tVar 7) (tUn xNeg (tC (.int 1)))) (tC (.int 0))) [s0, s1, s2, s3, some (dl (S.l.map encO)), some (natW u), s6, some (.cel (M.length + 0)), none, none, none] (M ++ [.lst (((cycR S u j).map encW).map .dat)]) (natW (preN S j u)) (M ++ [.lst (((cycR S u j).map encW).map .dat)]) := by
    intro j h0 hj
    obtain ⟨_, r, _, h2, h3⟩ := lastR j h0 hj
    exact ⟨r, h3, .ixG (.ixG (w1 := .dat (encW r)) (.var rfl) (.neg .int) (.lst (.cel (getL rfl)) h2)) .int (.tup (by rw [← h3] <;> rfl))⟩
  intro n
  induction n with
  | zero =>
    intro j h0 hj
    have e : j = p0 := by omega
    subst e
    obtain ⟨r, _, ev⟩ := tt j h0 (Nat.le_refl _)
    exact .inl ⟨_, .is (.test (.ne ev (.var rfl) (.int _ _))) (by rw [C.back, decide_eq_true rfl] <;> rfl), _, Sub.refl _, rfl⟩
  | succ n ih =>
    intro j h0 hj
    obtain ⟨r, _, ev⟩ := tt j h0 (by omega)
    have hne := C.min j h0 (by omega)
    obtain ⟨r2, h2⟩ := C.has j (by omega)
    have hlt := C.lt j (by omega)
    have i := ih (j + 1) (by omega) (by omega)
    have e : ((cycR S u (j + 1)).map encW).map W.dat = ((cycR S u j).map encW).map W.dat ++ [.dat (encW r2)] := by
      unfold cycR cycV
      rw [List.range_succ, List.map_append, List.map_append, List.map_append, List.map_append]
      show _ ++ [W.dat (encW (rowOf S (preN S j u)))] = _
      rw [(rowOf_ok h2).1]
    rw [e] at i
    refine .inr ⟨_, _, .is (.test (.ne ev (.var rfl) (.int _ _))) (by rw [decide_eq_false (by omega)] <;> rfl), .appendL (k := 0) (w := .dat (encW r2)) (.var rfl) (last_ev hl hlt h2 (.var rfl) ev) rfl ?_, i⟩
    rw [List.length_map, (lastR j h0 (by omega)).1]
    have := C.le
    omega
theorem add_loop {s0 s1 s2 s3 s4 s5 s6 : Sl} {m : Int} {R : List W} : ∀ (rs : List Rw) (y : List Int) (a8 : Sl), (∀ r ∈ rs, r.n < y.length ∧ -(2 ^ 64) < r.w ∧ r.w < 2 ^ 64) →
    ForP K E (fun N => N[M.length + 0]? = some (.lst R)) (gName 8) (c_better K) ((rs.map encW).map .dat) [s0, s1, s2, s3, s4, s5, s6, some (.cel (M.length + 0)), a8, some (di m), some (.cel (M.length + 1))] (M ++ [.lst R, .lst (y.map di)])
      (.nx [s0, s1, s2, s3, s4, s5, s6, some (.cel (M.length + 0)), none, some (di m), some (.cel (M.length + 1))] (M ++ [.lst R, .lst ((rs.foldl (addRow m) y).map di)]))
  | [], y, a8, _ => ⟨getL (n := 0) rfl, _, .cons (.inr rfl) (.cons (.inr rfl) (.cons (.inr rfl) (.cons (.inr rfl) (.cons (.inr rfl) (.cons (.inr rfl) (.cons (.inr rfl) (.cons (.inr rfl) (.cons (.inl rfl) (.cons (.inr rfl) (.cons (.inr rfl) .nil)))))))))), rfl⟩
  | r :: rs, y, a8, h => by
    obtain ⟨hn, hw1, hw2⟩ := h r List.mem_cons_self
    refine ⟨getL (n := 0) rfl, .nx [s0, s1, s2, s3, s4, s5, s6, some (.cel (M.length + 0)), some (.dat (encW r)), some (di m), some (.cel (M.length + 1))] (M ++ [.lst R, .lst ((addRow m y r).map di)]), .name (.is (.setItemL (k := 1) (w := di (y.getD r.n 0 + m * r.w)) (i := (r.n : Int)) (n := r.n) (.add (.ixG (.var rfl) (.ixG (w1 := di (r.n : Int)) (.var rfl) .int (.tup rfl)) (.lst (.cel (ws := y.map di) (getL (n := 1) rfl)) (atI_map (atI_nat (getD_some hn))))) (.mul (.var rfl) (.ixG (w1 := di r.w) (.var rfl) .int (.tup rfl)) (.inr ⟨hw1, hw2⟩))) (.var rfl) (.ixG (w1 := di (r.n : Int)) (.var rfl) .int (.tup rfl)) rfl ?_) ?_), ?_⟩
    · rw [List.length_map]
      exact ixN_nat hn
    · unfold addRow
      rw [← set_map_di] <;> rfl
    · exact add_loop rs (addRow m y r) _ fun x hx => by
        have := h x (List.mem_cons_of_mem _ hx)
        unfold addRow
        rw [List.length_set]
        exact this
theorem big_better (h : T_better X M ws o) : BigF K E (t_better K E X) (args 11 ws) M o := by
  obtain ⟨c, ds, d, rfl, hc, hl, B, ⟨C, h, rfl⟩ | ⟨f, h, hn, rfl⟩ | ⟨f, v, p0, h, hn, C, rfl⟩⟩ := h
  · exact .raise (N0 := []) (.is (.seqZ (even_no h (by omega) hl B.ab (.var rfl) (.var rfl) (.var rfl))) (by rw [List.append_nil]))
  · cases h with
    | ok k he =>
      exact .rt (.seq (even_yes k he (by omega) hl B.ab (.var rfl) (.var rfl) (.var rfl)) (.seq (.unpack3 (climb_call B k.len (.var rfl) (.var rfl) (.var rfl))) (.seqIte (b := true) (.test (.is (.isN (w1 := .dat (encN (clS c ds f).ri)) (.var rfl) .non) (by rw [isNon_encN, decide_eq_true hn]))) (fun _ => .seqR (.ret .non)) fun z => nomatch z)))
  · cases h with
    | ok k he =>
      obtain ⟨lev, L, hv1, hv2⟩ := climbed_go (moves_rows (cut := f) B) hn
      have hll : (clS c ds f).l.length = c := climbed_len.2
      have hhas : ∀ j, j < c → preN (clS c ds f) j v < c ∧ ∃ r, lst (clS c ds f) (preN (clS c ds f) j v) = some r := fun j hj => ⟨(L.walk (moves_rows B) hv2 hv1 j (by omega)).1, L.has (moves_rows B) hv2 hv1 (by omega)⟩
      have back := back_loop (K := K) (E := E) (M := M) (s0 := some (di c)) (s1 := some (dl (encDs ds))) (s2 := some (dl (iI f))) (s3 := some (dl (iI (clS c ds f).h))) (a6 := none) hll c 0 v none hhas
      rw [← List.range_eq_range'] at back
      obtain ⟨r1, hr1⟩ := C.has 0 C.pos
      have hu := C.lt 0 C.pos
      have hrow : ∀ r ∈ cycR (clS c ds f) (preN (clS c ds f) c v) p0, MoveOk ds f r := by
        intro r hr
        obtain ⟨w, hw, rfl⟩ := List.mem_map.mp hr
        obtain ⟨r, h⟩ := cyc_has C w hw
        rw [(rowOf_ok h).1]
        exact movesOf_ok r (L.la w r h).1
      have hcl : (cycR (clS c ds f) (preN (clS c ds f) c v) p0).length = p0 := by
        unfold cycR cycV
        rw [List.length_map, List.length_map, List.length_range]
      have hple := C.le
      have hp := C.pos
      have wl := cyc_loop (K := K) (E := E) (M := M) (s0 := some (di c)) (s1 := some (dl (encDs ds))) (s2 := some (dl (iI f))) (s3 := some (dl (iI (clS c ds f).h))) (s6 := none) hll (by omega) C (p0 - 1) 1 (by omega) (by omega)
      have one : ((cycR (clS c ds f) (preN (clS c ds f) c v) 1).map encW).map W.dat = [.dat (encW r1)] := by
        unfold cycR cycV
        show [W.dat (encW (rowOf (clS c ds f) (preN (clS c ds f) 0 (preN (clS c ds f) c v))))] = _
        rw [(rowOf_ok hr1).1]
      rw [one] at wl
      obtain ⟨m1, m2⟩ := least_ok (l := (cycR (clS c ds f) (preN (clS c ds f) c v) p0).map (·.r)) (by rw [List.length_map]; omega)
      have al := add_loop (K := K) (E := E) (M := M) (s0 := some (di c)) (s1 := some (dl (encDs ds))) (s2 := some (dl (iI f))) (s3 := some (dl (iI (clS c ds f).h))) (s4 := some (dl ((clS c ds f).l.map encO))) (s5 := some (natW (preN (clS c ds f) c v))) (s6 := none) (m := leastR (cycR (clS c ds f) (preN (clS c ds f) c v) p0)) (R := ((cycR (clS c ds f) (preN (clS c ds f) c v) p0).map encW).map .dat) (cycR (clS c ds f) (preN (clS c ds f) c v) p0) f none (fun r hr => by
        have mo := hrow r hr
        refine ⟨by rw [k.len]; exact mo.n, ?_, ?_⟩
        · rcases mo.d with ⟨w, _⟩ | ⟨w, _⟩ <;> omega
        · rcases mo.d with ⟨w, _⟩ | ⟨w, _⟩ <;> omega)
      refine .dat (N0 := [.lst (((cycR (clS c ds f) (preN (clS c ds f) c v) p0).map encW).map .dat), .dead]) (.seq (even_yes k he (by omega) hl B.ab (.var rfl) (.var rfl) (.var rfl)) (.seq (.unpack3 (climb_call B k.len (.var rfl) (.var rfl) (.var rfl))) (.seqIte (b := false) (.test (.is (.isN (w1 := .dat (encN (clS c ds f).ri)) (.var rfl) .non) (by rw [isNon_encN, decide_eq_false (by rw [hn]; simp)]))) (fun z => nomatch z) fun _ => .seqN ?_)))
      rw [hn]
      refine .seq (s1 := [some (di c), some (dl (encDs ds)), some (dl (iI f)), some (dl (iI (clS c ds f).h)), some (dl ((clS c ds f).l.map encO)), some (natW (preN (clS c ds f) c v)), none, none, none, none, none]) (M1 := M) (.forR (n := (c : Int)) (ea_cons (.var rfl) ea_nil) (by omega) (by omega) back)
        (.seq (s1 := [some (di c), some (dl (encDs ds)), some (dl (iI f)), some (dl (iI (clS c ds f).h)), some (dl ((clS c ds f).l.map encO)), some (natW (preN (clS c ds f) c v)), none, some (.cel (M.length + 0)), none, none, none]) (M1 := M ++ [.lst [.dat (encW r1)]]) (.asg (.lstC (ea_cons (last_ev hll hu hr1 (.var rfl) (.var rfl)) ea_nil) (Nat.le_of_ble_eq_true rfl)))
        (.seq (s1 := [some (di c), some (dl (encDs ds)), some (dl (iI f)), some (dl (iI (clS c ds f).h)), some (dl ((clS c ds f).l.map encO)), some (natW (preN (clS c ds f) c v)), none, some (.cel (M.length + 0)), none, none, none]) (M1 := M ++ [.lst (((cycR (clS c ds f) (preN (clS c ds f) c v) p0).map encW).map .dat)]) (.whl wl)
        (.st (w := di (leastR (cycR (clS c ds f) (preN (clS c ds f) c v) p0))) (.minL (w := dl (iI ((cycR (clS c ds f) (preN (clS c ds f) c v) p0).map (·.r)))) (ns := (cycR (clS c ds f) (preN (clS c ds f) c v) p0).map (·.r)) ?_ lst_iI m1 m2)
        (.seq (s1 := [some (di c), some (dl (encDs ds)), some (dl (iI f)), some (dl (iI (clS c ds f).h)), some (dl ((clS c ds f).l.map encO)), some (natW (preN (clS c ds f) c v)), none, some (.cel (M.length + 0)), none, some (di (leastR (cycR (clS c ds f) (preN (clS c ds f) c v) p0))), some (.cel (M.length + 1))]) (M1 := M ++ [.lst (((cycR (clS c ds f) (preN (clS c ds f) c v) p0).map encW).map .dat), .lst (f.map di)]) (.newL (.listC (.var rfl) lst_iI))
        (.seq (s1 := [some (di c), some (dl (encDs ds)), some (dl (iI f)), some (dl (iI (clS c ds f).h)), some (dl ((clS c ds f).l.map encO)), some (natW (preN (clS c ds f) c v)), none, some (.cel (M.length + 0)), none, some (di (leastR (cycR (clS c ds f) (preN (clS c ds f) c v) p0))), some (.cel (M.length + 1))]) (M1 := M ++ [.lst (((cycR (clS c ds f) (preN (clS c ds f) c v) p0).map encW).map .dat), .lst ((betterCut (cycR (clS c ds f) (preN (clS c ds f) c v) p0) f).map di)]) (.forC (ws := ((cycR (clS c ds f) (preN (clS c ds f) c v) p0).map encW).map .dat) (.var rfl) al)
        (.ret (.frzL (k := 1) (ds := iI (betterCut (cycR (clS c ds f) (preN (clS c ds f) c v) p0) f)) (.var rfl) ?_)))))))
      · refine Ev.is (Ev.lcL1 (xs := cycR (clS c ds f) (preN (clS c ds f) c v) p0) (enc := fun r => .dat (encW r)) (f := fun r => PyData.int r.r) (.var rfl) ?_ (by omega) fun r hr => .ixG (w1 := di r.r) (.var rfl) .int (.tup rfl)) ?_
        · have e : (cycR (clS c ds f) (preN (clS c ds f) c v) p0).map (fun r => W.dat (encW r)) = ((cycR (clS c ds f) (preN (clS c ds f) c v) p0).map encW).map .dat := by rw [List.map_map] <;> rfl
          rw [e]
          exact .cel (getL (n := 0) rfl)
        · unfold iI
          rw [List.map_map] <;> rfl
      · rw [map_dat_ints] <;> rfl
end
end Bk

set_option Elab.async false
set_option linter.all false
set_option maxRecDepth 100000
set_option maxHeartbeats 4000000
/-! E07: the law k07's own helpers -/
namespace Vx
open PySem L2
section
variable {K : PySem.W.Frag} {E : XK} {M : List Cell} {s : List Sl} {o : Out} {t : TS} {ds : List PyData} {i j : Nat}
/-- a list that a slot holds stands still from here on -/
theorem Big.freeze (h0 : s[i]? = some (some (.cel j))) (hm : M[j]? = some (.lst (ds.map .dat))) (q : Big K E t (s.set i (some (dl ds))) (M.set j .dead) o) : Big K E t s M o := fun G al σ H D k r p => by
  obtain ⟨v, e1, a, e2, rfl⟩ := sr_get r h0
  obtain ⟨xs, e3, e4⟩ := k.ce j a _ e2 hm
  have k2 := k.freeze e2 hm e3
  have l2 : Le G al H (upd G a (.lst xs)) al H := .freeze k e2 hm
  have r2 : SR K (upd G a (.lst xs)) al (s.set i (some (dl ds))) (σ.set i (some (.ref a))) := sr_set (r.up l2) (w := dl ds) (Dq.lst upd_same (dqa_mono (same_new (k.gn j a _ e2 hm (fun z => nomatch z))) (wr_dqa e4)))
  have es : σ.set i (some (.ref a)) = σ := by
    obtain ⟨hl, he⟩ := List.getElem?_eq_some_iff.mp e1
    rw [← he, List.set_getElem_self]
  rw [es] at r2
  exact q _ al σ H D k2 r2 (Post.up p k k2 l2)
end
end Vx
namespace Bk
open PySem L2 Vx HotP
section
variable {K : PySem.W.Frag} {E : XK} {M M1 M2 : List Cell} {s : List Sl} {ws : List W} {o : Res} {X : Xs} {ta tb : TE}
def T_qis_cut (M : List Cell) (ws : List W) (o : Res) : Prop := ∃ (ds : List Dt) (f : List Int), ws = [dl (encDs ds), dl (iI f)] ∧ ds.length ≤ 1000 ∧ CutOk ds f ∧ o = .ret (db true) M
def u_qis_cut (K : PySem.W.Frag) : TS := (tIfS (tOr (tNot (tB (tCall (spOf K T_qwhole) [] E0 (tCons (tOp (rIx K) (tVar 1) (tVar 2)) tNil)))) (tNot (tTest (tChain xLe xLe (tC (.int 0)) (tOp (rIx K) (tVar 1) (tVar 2)) (tOp (rIx K) (tOp (rIx K) (tVar 0) (tVar 2)) (tC (.int 2))))))) (tRet (tC (.bl false))) tNext)
def t_qis_cut (K : PySem.W.Frag) : TS := (tSeq (tIfS (tOr (tNot (tB (tCB (rIsi K) (tCons (tVar 1) (tCons (tC (.ty "list")) tNil))))) (tTest (tOp rNe (tCB (rLenX K) (tCons (tVar 1) tNil)) (tCB (rLenX K) (tCons (tVar 0) tNil))))) (tRet (tC (.bl false))) tNext)
    (tSeq (tFor (iRng1 (tCons (tCB (rLenX K) (tCons (tVar 0) tNil)) tNil)) (gName 2) (u_qis_cut K))
    (tRet (tC (.bl true)))))
theorem big_qis_cut (h : T_qis_cut M ws o) : BigF K E (t_qis_cut K) (args 3 ws) M o := by
  obtain ⟨ds, f, rfl, hl, k, rfl⟩ := h
  have hf := k.len
  refine .rt (.seqIte (b := !true || !decide ((f.length : Int) = ds.length)) (.or (.not (.val (.isT (.var rfl) (kit_lst _)))) fun _ => .test (.ne (.lenG (.var rfl) .map) (.lenG (.var rfl) .map) (.int _ _))) (fun z => by rw [decide_eq_true (by omega)] at z; cases z) fun _ => .seqN (.seq (s1 := [some (dl (encDs ds)), some (dl (iI f)), none]) (M1 := M) (.forR (n := (ds.length : Int)) (ea_cons (.lenG (.var rfl) .map) ea_nil) (by omega) (by omega) ?_) (.ret .bl)))
  rw [show (ds.length : Int).toNat = ds.length by omega]
  refine for_idle (enc := natW) (I := fun s => ∃ a, s = [some (dl (encDs ds)), some (dl (iI f)), a]) ?_ (List.range ds.length) ?_ _ ⟨_, rfl⟩
  · rintro _ ⟨a, rfl⟩
    exact .cons (.inr rfl) (.cons (.inr rfl) (.cons (.inl rfl) .nil))
  · rintro n hm _ ⟨a, rfl⟩
    have hn := List.mem_range.mp hm
    have h1 := k.lo n hn
    have h2 := k.hi n hn
    refine ⟨[some (dl (encDs ds)), some (dl (iI f)), some (natW n)], ⟨_, rfl⟩, .name (.ite (b := !true || !(decide ((0 : Int) ≤ f.getD n 0) && decide (f.getD n 0 ≤ dM ds n))) (.or (.not (.val (.call (w := db true) (ea_cons (.intI (.var rfl) (.var rfl) rfl (by omega)) ea_nil) ⟨_, rfl, rfl⟩))) fun _ => .not (.test (.chain .int (.intI (.var rfl) (.var rfl) rfl (by omega)) fun _ => .debtM (.var rfl) (.var rfl) hn))) (fun z => ?_) fun _ => .next)⟩
    rw [decide_eq_true h1, decide_eq_true h2] at z
    cases z
def T_qis_priced (M : List Cell) (ws : List W) (o : Res) : Prop := ∃ (c : Nat) (ds : List Dt) (f p : List Int), ws = [di c, dl (encDs ds), dl (iI f), dl (iI p)] ∧ ds.length ≤ 1000 ∧ f.length = ds.length ∧ p.length = c ∧ c ≤ 1000 ∧ (∀ d ∈ ds, d.a < c ∧ d.b < c) ∧ o = .ret (db (shows ds f p)) M
def u_qis_priced (K : PySem.W.Frag) : TS := (tIfS (tNot (tB (tCall (spOf K T_qwhole) [] E0 (tCons (tVar 4) tNil)))) (tRet (tC (.bl false))) tNext)
def t_qis_priced (K : PySem.W.Frag) : TS := (tSeq (tIfS (tOr (tNot (tB (tCB (rIsi K) (tCons (tVar 3) (tCons (tC (.ty "list")) tNil))))) (tTest (tOp rNe (tCB (rLenX K) (tCons (tVar 3) tNil)) (tVar 0)))) (tRet (tC (.bl false))) tNext)
    (tSeq (tFor (iList K (tVar 3)) (gName 4) (u_qis_priced K))
    (tRet (tCall (spOf K T_qshows) [] E0 (tCons (tVar 1) (tCons (tVar 2) (tCons (tVar 3) tNil)))))))
theorem big_qis_priced (h : T_qis_priced M ws o) : BigF K E (t_qis_priced K) (args 5 ws) M o := by
  obtain ⟨c, ds, f, p, rfl, hl, hf, hp, hc, hb, rfl⟩ := h
  refine .rt (.seqIte (b := !true || !decide ((p.length : Int) = c)) (.or (.not (.val (.isT (.var rfl) (kit_lst _)))) fun _ => .test (.ne (.lenG (.var rfl) .map) (.var rfl) (.int _ _))) (fun z => by rw [decide_eq_true (by omega)] at z; cases z) fun _ => .seqN (.seq (s1 := [some (di c), some (dl (encDs ds)), some (dl (iI f)), some (dl (iI p)), none]) (M1 := M) (.forL (.var rfl) ?_) (.ret (.call (ea_cons (.var rfl) (ea_cons (.var rfl) (ea_cons (.var rfl) ea_nil))) ⟨c, ds, f, p, rfl, hl, hf, hp, hb, rfl⟩))))
  rw [map_dat_ints]
  refine for_idle (enc := di) (I := fun s => ∃ a, s = [some (di c), some (dl (encDs ds)), some (dl (iI f)), some (dl (iI p)), a]) ?_ p ?_ _ ⟨_, rfl⟩
  · rintro _ ⟨a, rfl⟩
    exact .cons (.inr rfl) (.cons (.inr rfl) (.cons (.inr rfl) (.cons (.inr rfl) (.cons (.inl rfl) .nil))))
  · rintro n hm _ ⟨a, rfl⟩
    exact ⟨[some (di c), some (dl (encDs ds)), some (dl (iI f)), some (dl (iI p)), some (di n)], ⟨_, rfl⟩, .name (.ite (b := !true) (.not (.val (.call (w := db true) (ea_cons (.var rfl) ea_nil) ⟨_, rfl, rfl⟩))) (fun z => nomatch z) fun _ => .next)⟩
/-! the law's own rising -/
def T_qsettles (M : List Cell) (ws : List W) (o : Res) : Prop := ∃ (c : Nat) (ds : List Dt) (f : List Int), ws = [di c, dl (encDs ds), dl (iI f)] ∧ c ≤ 900 ∧ ds.length ≤ 1000 ∧ (∀ d ∈ ds, d.a < c ∧ d.b < c) ∧ f.length = ds.length ∧ o = .ret (db (decide ((clS c ds f).ri = none))) M
def v_qsettles (K : PySem.W.Frag) : TS := (tSeq (tAsg (tOp (rIx K) (tOp (rIx K) (tVar 1) (tVar 6)) (tC (.int 0))) (gName 7))
    (tSeq (tAsg (tOp (rIx K) (tOp (rIx K) (tVar 1) (tVar 6)) (tC (.int 1))) (gName 8))
    (tSeq (tIfS (tAnd (tTest (tOp xLt (tOp (rIx K) (tVar 2) (tVar 6)) (tOp (rIx K) (tOp (rIx K) (tVar 1) (tVar 6)) (tC (.int 2))))) (tTest (tOp xGt (tOp xAdd (tOp (rIx K) (tVar 3) (tVar 7)) (tC (.int 1))) (tOp (rIx K) (tVar 3) (tVar 8))))) (tSeq (tAsg (tOp xAdd (tOp (rIx K) (tVar 3) (tVar 7)) (tC (.int 1))) (gSub (tVar 3) (tVar 8) rSetL))
    (tAsg (tC (.bl true)) (gName 5))) tNext)
    (tIfS (tAnd (tTest (tOp xGt (tOp (rIx K) (tVar 2) (tVar 6)) (tC (.int 0)))) (tTest (tOp xGt (tOp xSub (tOp (rIx K) (tVar 3) (tVar 8)) (tC (.int 1))) (tOp (rIx K) (tVar 3) (tVar 7))))) (tSeq (tAsg (tOp xSub (tOp (rIx K) (tVar 3) (tVar 8)) (tC (.int 1))) (gSub (tVar 3) (tVar 7) rSetL))
    (tAsg (tC (.bl true)) (gName 5))) tNext))))
def u_qsettles (K : PySem.W.Frag) : TS := (tSeq (tAsg (tC (.bl false)) (gName 5))
    (tSeq (tFor (iRng1 (tCons (tCB (rLenX K) (tCons (tVar 1) tNil)) tNil)) (gName 6) (v_qsettles K))
    (tIfS (tNot (tB (tVar 5))) (tRet (tC (.bl true))) tNext)))
def t_qsettles (K : PySem.W.Frag) : TS := (tSeq (tAsg (tLc (iRng1 (tCons (tVar 0) tNil)) (gName 9) tYes (tC (.int 0)) [9]) (gName 3))
    (tSeq (tFor (iRng1 (tCons (tOp xAdd (tVar 0) (tC (.int 1))) tNil)) (gName 4) (u_qsettles K))
    (tRet (tC (.bl false)))))
def rel1 (ds : List Dt) (f : List Int) (n : Nat) (s : CS) : CS := if f.getD n 0 < dM ds n then relx s ⟨dA ds n, dB ds n, 1, n, dM ds n - f.getD n 0⟩ else s
def rel2 (ds : List Dt) (f : List Int) (n : Nat) (s : CS) : CS := if 0 < f.getD n 0 then relx s ⟨dB ds n, dA ds n, -1, n, f.getD n 0⟩ else s
theorem rel_at {ds : List Dt} {f : List Int} {n : Nat} {s : CS} : (movesAt ds f n).foldl relx s = rel2 ds f n (rel1 ds f n s) := by
  unfold movesAt rel1 rel2
  split <;> split <;> rfl
theorem rel1_len {ds : List Dt} {f : List Int} {n : Nat} {s : CS} : (rel1 ds f n s).h.length = s.h.length := by
  unfold rel1
  split
  · exact relx_len.1
  · rfl
theorem rel2_len {ds : List Dt} {f : List Int} {n : Nat} {s : CS} : (rel2 ds f n s).h.length = s.h.length := by
  unfold rel2
  split
  · exact relx_len.1
  · rfl
theorem set_turn {c n : Nat} {ds : List Dt} {f : List Int} {s : CS} {s0 s4 a7 a8 a9 : Sl} (hn : n < ds.length) (hf : f.length = ds.length) (ha : dA ds n < c) (hb : dB ds n < c) (hh : s.h.length = c) :
    Big K E (v_qsettles K) [s0, some (dl (encDs ds)), some (dl (iI f)), some (.cel (M.length + 0)), s4, some (db s.ri.isSome), some (natW n), a7, a8, a9] (M ++ [.lst (s.h.map di)])
      (.nx [s0, some (dl (encDs ds)), some (dl (iI f)), some (.cel (M.length + 0)), s4, some (db (rel2 ds f n (rel1 ds f n s)).ri.isSome), some (natW n), some (natW (dA ds n)), some (natW (dB ds n)), a9] (M ++ [.lst ((rel2 ds f n (rel1 ds f n s)).h.map di)])) := by
  have gh : ∀ {S : CS} {v : Nat}, S.h.length = c → v < c → S.h[v]? = some (S.h.getD v 0) := fun {S v} hS hv => getD_some (by omega)
  have st1 : ∀ (S : CS), S.h.length = c → Big K E (tIfS (tAnd (tTest (tOp xLt (tOp (rIx K) (tVar 2) (tVar 6)) (tOp (rIx K) (tOp (rIx K) (tVar 1) (tVar 6)) (tC (.int 2))))) (tTest (tOp xGt (tOp xAdd (tOp (rIx K) (tVar 3) (tVar 7)) (tC (.int 1))) (tOp (rIx K) (tVar 3) (tVar 8))))) (tSeq (tAsg (tOp xAdd (tOp (rIx K) (tVar 3) (tVar 7)) (tC (.int 1))) (gSub (tVar 3) (tVar 8) rSetL))
    (tAsg (tC (.bl true)) (gName 5))) tNext) [s0, some (dl (encDs ds)), some (dl (iI f)), some (.cel (M.length + 0)), s4, some (db S.ri.isSome), some (natW n), some (natW (dA ds n)), some (natW (dB ds n)), a9] (M ++ [.lst (S.h.map di)])
      (.nx [s0, some (dl (encDs ds)), some (dl (iI f)), some (.cel (M.length + 0)), s4, some (db (rel1 ds f n S).ri.isSome), some (natW n), some (natW (dA ds n)), some (natW (dB ds n)), a9] (M ++ [.lst ((rel1 ds f n S).h.map di)])) := fun S hS => by
    have e1 : Ev K (tOp xAdd (tOp (rIx K) (tVar 3) (tVar 7)) (tC (.int 1))) [s0, some (dl (encDs ds)), some (dl (iI f)), some (.cel (M.length + 0)), s4, some (db S.ri.isSome), some (natW n), some (natW (dA ds n)), some (natW (dB ds n)), a9] (M ++ [.lst (S.h.map di)]) (di (S.h.getD (dA ds n) 0 + 1)) (M ++ [.lst (S.h.map di)]) := .add (.ixG (.var rfl) (.var rfl) (.lst (.cel (ws := S.h.map di) (getL rfl)) (atI_map (atI_nat (gh hS ha))))) .int
    have tt : EvB K (tAnd (tTest (tOp xLt (tOp (rIx K) (tVar 2) (tVar 6)) (tOp (rIx K) (tOp (rIx K) (tVar 1) (tVar 6)) (tC (.int 2))))) (tTest (tOp xGt (tOp xAdd (tOp (rIx K) (tVar 3) (tVar 7)) (tC (.int 1))) (tOp (rIx K) (tVar 3) (tVar 8))))) [s0, some (dl (encDs ds)), some (dl (iI f)), some (.cel (M.length + 0)), s4, some (db S.ri.isSome), some (natW n), some (natW (dA ds n)), some (natW (dB ds n)), a9] (M ++ [.lst (S.h.map di)]) (decide (f.getD n 0 < dM ds n) && decide (S.h.getD (dB ds n) 0 < S.h.getD (dA ds n) 0 + 1)) (M ++ [.lst (S.h.map di)]) :=
      .and (.test (.lt (.intI (.var rfl) (.var rfl) rfl (by omega)) (.debtM (.var rfl) (.var rfl) hn))) fun _ => .test (.gt e1 (.ixG (.var rfl) (.var rfl) (.lst (.cel (ws := S.h.map di) (getL rfl)) (atI_map (atI_nat (gh hS hb))))))
    by_cases q : (decide (f.getD n 0 < dM ds n) && decide (S.h.getD (dB ds n) 0 < S.h.getD (dA ds n) 0 + 1)) = true
    · have q2 := q
      rw [Bool.and_eq_true, decide_eq_true_eq, decide_eq_true_eq] at q2
      have e : rel1 ds f n S = ⟨S.h.set (dB ds n) (S.h.getD (dA ds n) 0 + 1), S.l.set (dB ds n) (some ⟨dA ds n, dB ds n, 1, n, dM ds n - f.getD n 0⟩), some (dB ds n)⟩ := by
        unfold rel1 relx
        rw [if_pos q2.1, if_pos q2.2]
      rw [e]
      refine .ite tt (fun _ => .seq (.setItemL (k := 0) (w := di (S.h.getD (dA ds n) 0 + 1)) (i := (dB ds n : Int)) (n := dB ds n) e1 (.var rfl) (.var rfl) rfl (by rw [List.length_map]; exact ixN_nat (by omega))) (.is (.asg (n := 5) .bl) ?_)) fun z => by rw [q] at z; cases z
      rw [← set_map_di] <;> rfl
    · have e : rel1 ds f n S = S := by
        rw [Bool.and_eq_true, decide_eq_true_eq, decide_eq_true_eq] at q
        unfold rel1 relx
        by_cases z : f.getD n 0 < dM ds n
        · rw [if_pos z]
          exact if_neg fun y => q ⟨z, y⟩
        · rw [if_neg z]
      rw [e]
      exact .ite tt (fun z => absurd z q) fun _ => .next
  have st2 : ∀ (S : CS), S.h.length = c → Big K E (tIfS (tAnd (tTest (tOp xGt (tOp (rIx K) (tVar 2) (tVar 6)) (tC (.int 0)))) (tTest (tOp xGt (tOp xSub (tOp (rIx K) (tVar 3) (tVar 8)) (tC (.int 1))) (tOp (rIx K) (tVar 3) (tVar 7))))) (tSeq (tAsg (tOp xSub (tOp (rIx K) (tVar 3) (tVar 8)) (tC (.int 1))) (gSub (tVar 3) (tVar 7) rSetL))
    (tAsg (tC (.bl true)) (gName 5))) tNext) [s0, some (dl (encDs ds)), some (dl (iI f)), some (.cel (M.length + 0)), s4, some (db S.ri.isSome), some (natW n), some (natW (dA ds n)), some (natW (dB ds n)), a9] (M ++ [.lst (S.h.map di)])
      (.nx [s0, some (dl (encDs ds)), some (dl (iI f)), some (.cel (M.length + 0)), s4, some (db (rel2 ds f n S).ri.isSome), some (natW n), some (natW (dA ds n)), some (natW (dB ds n)), a9] (M ++ [.lst ((rel2 ds f n S).h.map di)])) := fun S hS => by
    have e1 : Ev K (tOp xSub (tOp (rIx K) (tVar 3) (tVar 8)) (tC (.int 1))) [s0, some (dl (encDs ds)), some (dl (iI f)), some (.cel (M.length + 0)), s4, some (db S.ri.isSome), some (natW n), some (natW (dA ds n)), some (natW (dB ds n)), a9] (M ++ [.lst (S.h.map di)]) (di (S.h.getD (dB ds n) 0 - 1)) (M ++ [.lst (S.h.map di)]) := .sub (.ixG (.var rfl) (.var rfl) (.lst (.cel (ws := S.h.map di) (getL rfl)) (atI_map (atI_nat (gh hS hb))))) .int
    have tt : EvB K (tAnd (tTest (tOp xGt (tOp (rIx K) (tVar 2) (tVar 6)) (tC (.int 0)))) (tTest (tOp xGt (tOp xSub (tOp (rIx K) (tVar 3) (tVar 8)) (tC (.int 1))) (tOp (rIx K) (tVar 3) (tVar 7))))) [s0, some (dl (encDs ds)), some (dl (iI f)), some (.cel (M.length + 0)), s4, some (db S.ri.isSome), some (natW n), some (natW (dA ds n)), some (natW (dB ds n)), a9] (M ++ [.lst (S.h.map di)]) (decide (0 < f.getD n 0) && decide (S.h.getD (dA ds n) 0 < S.h.getD (dB ds n) 0 - 1)) (M ++ [.lst (S.h.map di)]) :=
      .and (.test (.gt (.intI (.var rfl) (.var rfl) rfl (by omega)) .int)) fun _ => .test (.gt e1 (.ixG (.var rfl) (.var rfl) (.lst (.cel (ws := S.h.map di) (getL rfl)) (atI_map (atI_nat (gh hS ha))))))
    by_cases q : (decide (0 < f.getD n 0) && decide (S.h.getD (dA ds n) 0 < S.h.getD (dB ds n) 0 - 1)) = true
    · have q2 := q
      rw [Bool.and_eq_true, decide_eq_true_eq, decide_eq_true_eq] at q2
      have e : rel2 ds f n S = ⟨S.h.set (dA ds n) (S.h.getD (dB ds n) 0 - 1), S.l.set (dA ds n) (some ⟨dB ds n, dA ds n, -1, n, f.getD n 0⟩), some (dA ds n)⟩ := by
        unfold rel2 relx
        rw [if_pos q2.1]
        exact if_pos (show S.h.getD (dA ds n) 0 < S.h.getD (dB ds n) 0 + -1 by omega)
      rw [e]
      refine .ite tt (fun _ => .seq (.setItemL (k := 0) (w := di (S.h.getD (dB ds n) 0 - 1)) (i := (dA ds n : Int)) (n := dA ds n) e1 (.var rfl) (.var rfl) rfl (by rw [List.length_map]; exact ixN_nat (by omega))) (.is (.asg (n := 5) .bl) ?_)) fun z => by rw [q] at z; cases z
      rw [← set_map_di] <;> rfl
    · have e : rel2 ds f n S = S := by
        rw [Bool.and_eq_true, decide_eq_true_eq, decide_eq_true_eq] at q
        unfold rel2 relx
        by_cases z : 0 < f.getD n 0
        · rw [if_pos z]
          exact if_neg fun y => q ⟨z, by have y : S.h.getD (dA ds n) 0 < S.h.getD (dB ds n) 0 + -1 := y; omega⟩
        · rw [if_neg z]
      rw [e]
      exact .ite tt (fun z => absurd z q) fun _ => .next
  exact .st (.debtA (.var rfl) (.var rfl) hn) (.st (.debtB (.var rfl) (.var rfl) hn) (.seq (st1 s hh) (st2 _ (by rw [rel1_len]; exact hh))))
theorem set_in {c : Nat} {ds : List Dt} {f : List Int} {s0 s4 a9 : Sl} (hf : f.length = ds.length) (hb : ∀ d ∈ ds, d.a < c ∧ d.b < c) : ∀ (l : List Nat) (s : CS) (a6 a7 a8 : Sl), (∀ n ∈ l, n < ds.length) → s.h.length = c →
    ForL K E (gName 6) (v_qsettles K) (l.map natW) [s0, some (dl (encDs ds)), some (dl (iI f)), some (.cel (M.length + 0)), s4, some (db s.ri.isSome), a6, a7, a8, a9] (M ++ [.lst (s.h.map di)])
      (.nx [s0, some (dl (encDs ds)), some (dl (iI f)), some (.cel (M.length + 0)), s4, some (db ((l.flatMap (movesAt ds f)).foldl relx s).ri.isSome), none, none, none, a9] (M ++ [.lst (((l.flatMap (movesAt ds f)).foldl relx s).h.map di)]))
  | [], s, a6, a7, a8, _, _ => ⟨_, .cons (.inr rfl) (.cons (.inr rfl) (.cons (.inr rfl) (.cons (.inr rfl) (.cons (.inr rfl) (.cons (.inr rfl) (.cons (.inl rfl) (.cons (.inl rfl) (.cons (.inl rfl) (.cons (.inr rfl) .nil))))))))), rfl⟩
  | n :: l, s, a6, a7, a8, h, hh => by
    have hn := h n List.mem_cons_self
    have hab := hb _ (getD_mem hn)
    rw [List.flatMap_cons, List.foldl_append, rel_at]
    exact ⟨_, .name (set_turn hn hf hab.1 hab.2 hh), set_in hf hb l _ _ _ _ (fun m hm => h m (List.mem_cons_of_mem _ hm)) (by rw [rel2_len, rel1_len]; exact hh)⟩
theorem set_out {c : Nat} {ds : List Dt} {f : List Int} (hl : ds.length ≤ 1000) (hf : f.length = ds.length) (hb : ∀ d ∈ ds, d.a < c ∧ d.b < c) : ∀ (l : List Nat) (s : CS) (a4 a5 : Sl), s.h.length = c → (l = [] → s.ri ≠ none) →
    ∃ h' : List Int, ForL K E (gName 4) (u_qsettles K) (l.map natW) [some (di c), some (dl (encDs ds)), some (dl (iI f)), some (.cel (M.length + 0)), a4, a5, none, none, none, none] (M ++ [.lst (s.h.map di)])
      (if (climb (movesOf ds f) l.length s).ri = none then .rt (db true) (M ++ [.lst (h'.map di)]) else .nx [some (di c), some (dl (encDs ds)), some (dl (iI f)), some (.cel (M.length + 0)), none, none, none, none, none, none] (M ++ [.lst (h'.map di)]))
  | [], s, a4, a5, hh, h0 => ⟨s.h, by
    rw [if_neg (show ¬ (climb (movesOf ds f) ([] : List Nat).length s).ri = none from h0 rfl)]
    exact ⟨_, .cons (.inr rfl) (.cons (.inr rfl) (.cons (.inr rfl) (.cons (.inr rfl) (.cons (.inl rfl) (.cons (.inl rfl) (.cons (.inr rfl) (.cons (.inr rfl) (.cons (.inr rfl) (.cons (.inr rfl) .nil))))))))), rfl⟩⟩
  | k :: l, s, a4, a5, hh, _ => by
    have inn := set_in (K := K) (E := E) (M := M) (c := c) (s0 := some (di c)) (s4 := some (natW k)) (a9 := none) hf hb (List.range ds.length) { s with ri := none } none none none (fun n hn => List.mem_range.mp hn) hh
    have er : ((List.range ds.length).flatMap (movesAt ds f)).foldl relx { s with ri := none } = rnd (movesOf ds f) s := rfl
    rw [er] at inn
    have hl2 : (rnd (movesOf ds f) s).h.length = c := (fold_len2 (movesOf ds f) { s with ri := none }).1.trans hh
    have tt : EvB K (tNot (tB (tVar 5))) [some (di c), some (dl (encDs ds)), some (dl (iI f)), some (.cel (M.length + 0)), some (natW k), some (db (rnd (movesOf ds f) s).ri.isSome), none, none, none, none] (M ++ [.lst ((rnd (movesOf ds f) s).h.map di)]) (!(rnd (movesOf ds f) s).ri.isSome) (M ++ [.lst ((rnd (movesOf ds f) s).h.map di)]) := .not (.val (.var rfl))
    rw [List.length_cons]
    unfold climb
    by_cases q : (rnd (movesOf ds f) s).ri = none
    · refine ⟨(rnd (movesOf ds f) s).h, ?_⟩
      rw [if_pos q, if_pos q]
      exact ⟨_, .name (.st .bl (.seq (.forR (n := (ds.length : Int)) (ea_cons (.lenG (.var rfl) .map) ea_nil) (by omega) (by omega) inn) (.ite tt (fun _ => .ret .bl) fun z => by rw [q] at z; cases z))), rfl⟩
    · obtain ⟨h', i⟩ := set_out hl hf hb l (rnd (movesOf ds f) s) (some (natW k)) (some (db (rnd (movesOf ds f) s).ri.isSome)) hl2 (fun _ => q)
      refine ⟨h', ?_⟩
      rw [if_neg q]
      refine ⟨_, .name (.st .bl (.seq (.forR (n := (ds.length : Int)) (ea_cons (.lenG (.var rfl) .map) ea_nil) (by omega) (by omega) inn) (.ite tt (fun z => ?_) fun _ => .next))), i⟩
      cases z2 : (rnd (movesOf ds f) s).ri with
      | none => exact absurd z2 q
      | some v => rw [z2] at z; cases z
theorem big_qsettles (h : T_qsettles M ws o) : BigF K E (t_qsettles K) (args 10 ws) M o := by
  obtain ⟨c, ds, f, rfl, hc, hl, hb, hf, rfl⟩ := h
  obtain ⟨h', q⟩ := set_out (K := K) (E := E) (M := M) hl hf hb (List.range (c + 1)) ⟨List.replicate c 0, List.replicate c none, none⟩ none none List.length_replicate (fun h => by rw [List.range_succ] at h; simp at h)
  rw [List.length_range] at q
  have pre : ∀ {o : Out}, ForL K E (gName 4) (u_qsettles K) ((List.range (c + 1)).map natW) [some (di c), some (dl (encDs ds)), some (dl (iI f)), some (.cel (M.length + 0)), none, none, none, none, none, none] (M ++ [.lst ((List.replicate c (0 : Int)).map di)]) o → ∀ {u : TS} {o1 : Out}, (Big K E (tFor (iRng1 (tCons (tOp xAdd (tVar 0) (tC (.int 1))) tNil)) (gName 4) (u_qsettles K)) [some (di c), some (dl (encDs ds)), some (dl (iI f)), some (.cel (M.length + 0)), none, none, none, none, none, none] (M ++ [.lst ((List.replicate c (0 : Int)).map di)]) o → Big K E u [some (di c), some (dl (encDs ds)), some (dl (iI f)), some (.cel (M.length + 0)), none, none, none, none, none, none] (M ++ [.lst ((List.replicate c (0 : Int)).map di)]) o1) → Big K E (tSeq (tAsg (tLc (iRng1 (tCons (tVar 0) tNil)) (gName 9) tYes (tC (.int 0)) [9]) (gName 3)) u) (args 10 [di c, dl (encDs ds), dl (iI f)]) M o1 := fun {o} hfor {u o1} hu => by
    refine .seq (s1 := [some (di c), some (dl (encDs ds)), some (dl (iI f)), some (.cel (M.length + 0)), none, none, none, none, none, none]) (M1 := M ++ [.lst ((List.replicate c (0 : Int)).map di)]) (.asg ?_) (hu (.forR (n := (c : Int) + 1) (ea_cons (.add (.var rfl) .int) ea_nil) (by omega) (by omega) (by rw [show ((c : Int) + 1).toNat = c + 1 by omega]; exact hfor)))
    have q := Ev.lcRC1 (K := K) (M := M) (s := args 10 [di c, dl (encDs ds), dl (iI f)]) (trA := tCons (tVar 0) tNil) (te := tC (.int 0)) (n := 9) (m := (c : Int)) (g := fun _ => .int 0) (ea_cons (.var rfl) ea_nil) (by omega) fun k hk => .int
    rw [show (c : Int).toNat = c by omega, map_const_range, List.map_replicate] at q
    rw [List.map_replicate]
    exact q
  by_cases z : (clS c ds f).ri = none
  · rw [decide_eq_true z]
    rw [if_pos (show (climb (movesOf ds f) (c + 1) ⟨List.replicate c 0, List.replicate c none, none⟩).ri = none from z)] at q
    exact .dat (N0 := [.lst (h'.map di)]) (pre q fun hf => .seqR hf)
  · rw [decide_eq_false z]
    rw [if_neg (show ¬ (climb (movesOf ds f) (c + 1) ⟨List.replicate c 0, List.replicate c none, none⟩).ri = none from z)] at q
    exact .dat (N0 := [.lst (h'.map di)]) (pre q fun hf => .seq hf (.ret .bl))
end
end Bk

set_option Elab.async false
set_option linter.all false
set_option maxRecDepth 100000
set_option maxHeartbeats 4000000
/-! N10: the law k10's own helpers -/
namespace Bk
open PySem L2 Vx HotP
/-- the law's rows: lists of debtor, creditor, what is left -/
structure RowsC (M : List Cell) (r : Nat) (ix : List Nat) (ds : List Dt) (rs : List Int) : Prop where
  r : M[r]? = some (.lst (ix.map W.cel))
  len : ix.length = ds.length
  it : ∀ n, n < ds.length → M[ix.getD n 0]? = some (.lst [di (dA ds n), di (dB ds n), di (rs.getD n 0)])
def allD (ds : List Dt) (rs : List Int) : List Dt := (List.range ds.length).map fun n => ⟨dA ds n, dB ds n, rs.getD n 0⟩
section
variable {K : PySem.W.Frag} {E : XK} {M M1 M2 : List Cell} {s : List Sl} {ws : List W} {o : Res} {X : Xs} {ta tb te : TE} {C : Addr} {j j1 j2 c n r : Nat} {ds : List Dt} {rs : List Int} {ix : List Nat}
theorem RowsC.app {L : List Cell} (h : RowsC M r ix ds rs) : RowsC (M ++ L) r ix ds rs := by
  have up : ∀ {i : Nat} {x : Cell}, M[i]? = some x → (M ++ L)[i]? = some x := fun {i x} e => by
    rw [List.getElem?_append_left (List.getElem?_eq_some_iff.mp e).1]
    exact e
  exact ⟨up h.r, h.len, fun n hn => up (h.it n hn)⟩
theorem cel_at (R : RowsC M r ix ds rs) (hn : n < ds.length) : atI (ix.map W.cel) (n : Int) = some (.cel (ix.getD n 0)) := atI_map (atI_nat (by rw [List.getD_eq_getElem?_getD, List.getElem?_eq_getElem (by rw [R.len]; exact hn)] <;> rfl))
theorem row_ev (R : RowsC M r ix ds rs) (h : Ev K te s M (.cel r) M) (hi : Ev K ta s M (natW n) M) (hn : n < ds.length) : Ev K (tOp (rIx K) te ta) s M (.cel (ix.getD n 0)) M := .ixG h hi (.lst (.cel R.r) (cel_at R hn))
theorem row_a (R : RowsC M r ix ds rs) (h : Ev K te s M (.cel (ix.getD n 0)) M) (hn : n < ds.length) : Ev K (tOp (rIx K) te (tC (.int 0))) s M (di (dA ds n)) M := .ixG h .int (.lst (.cel (R.it n hn)) rfl)
theorem row_b (R : RowsC M r ix ds rs) (h : Ev K te s M (.cel (ix.getD n 0)) M) (hn : n < ds.length) : Ev K (tOp (rIx K) te (tC (.int 1))) s M (di (dB ds n)) M := .ixG h .int (.lst (.cel (R.it n hn)) rfl)
theorem row_c (R : RowsC M r ix ds rs) (h : Ev K te s M (.cel (ix.getD n 0)) M) (hn : n < ds.length) : Ev K (tOp (rIx K) te (tC (.int 2))) s M (di (rs.getD n 0)) M := .ixG h .int (.lst (.cel (R.it n hn)) rfl)
theorem rows_len (R : RowsC M r ix ds rs) (h : Ev K te s M (.cel r) M) : Ev K (tCB (rLenX K) (tCons te tNil)) s M (di (ds.length : Int)) M := .is (.lenG h (.lst (.cel R.r))) (by rw [List.length_map, R.len])
theorem ix_range (R : RowsC M r ix ds rs) : (List.range ds.length).map (fun n => W.cel (ix.getD n 0)) = ix.map W.cel := by
  apply List.ext_getElem (by rw [List.length_map, List.length_map, List.length_range, R.len])
  intro n h1 h2
  rw [List.length_map] at h2
  rw [List.getElem_map, List.getElem_map, List.getElem_range, List.getD_eq_getElem?_getD, List.getElem?_eq_getElem h2] <;> rfl
/-! ### refusals -/
def T_qno_house (X : Xs) (M : List Cell) (ws : List W) (o : Res) : Prop := ∃ (j j1 j2 c : Nat) (ds : List Dt) (rs : List Int) (d : PyData), ws = [.cel j, .dat d] ∧ DayC X.Day M j j1 j2 c ds rs ∧ wh 0 ((c : Int) - 1) d = false ∧ o = .ret (db true) M
def t_qno_house (K : PySem.W.Frag) (X : Xs) : TS := (tSeq (tTry K X.DebtError 2 (fun a cls d => (tRet (tOp rEq (tCall (spS K (T_qkind K X) a cls d) [] E0 (tCons (tVar 2) tNil)) (tC (.str "house"))))) (fun W => (tDrop (tMethS X.Day "balance" (spOf K (T_Day_balance X)) (WE W) (tVar 0) (tCons (tVar 1) tNil)))))
    (tRet (tC (.bl false))))
theorem kind_eq {a : Nat} {D : Addr} {i q : Nat} {w : Str} (hi : i < 9) (k : KitOk K X D i) (hw : nineW.getD i "" = w) (h2 : s[q]? = some (some (.raw a))) (hb : Ev K tb s M (ds_ w) M) : Ev K (tOp rEq (tCall (spS K (T_qkind K X) a (.ref D) none) [] E0 (tCons (tVar q) tNil)) tb) s M (db true) M := by
  subst hw
  exact .is (.eq (.callS (ea_cons (.var h2) ea_nil) ⟨i, hi, k, rfl, rfl⟩) hb (.str _ _)) (by rw [decide_eq_true rfl])
theorem big_qno_house (k : KitOk K X X.NoHouse 7) (h : T_qno_house X M ws o) : BigF K E (t_qno_house K X) (args 3 ws) M o := by
  obtain ⟨j, j1, j2, c, ds, rs, d, rfl, D, e, rfl⟩ := h
  exact .rt (.seqR (.tryDM_er (o := .rt (db true) M) (ws := [.dat d]) (.var rfl) D.d rfl (ea_cons (.var rfl) ea_nil) ⟨j, j1, j2, c, ds, rs, d, rfl, D, .inr ⟨e, rfl⟩⟩ k.d fun a => .ret (kind_eq (by decide) k rfl rfl .str)))
def T_qno_number (X : Xs) (M : List Cell) (ws : List W) (o : Res) : Prop := ∃ (j j1 j2 c : Nat) (ds : List Dt) (rs : List Int) (d : PyData), ws = [.cel j, .dat d] ∧ DayC X.Day M j j1 j2 c ds rs ∧ wh 0 ((ds.length : Int) - 1) d = false ∧ o = .ret (db true) M
def t_qno_number (K : PySem.W.Frag) (X : Xs) : TS := (tSeq (tTry K X.DebtError 2 (fun a cls d => (tRet (tOp rEq (tCall (spS K (T_qkind K X) a cls d) [] E0 (tCons (tVar 2) tNil)) (tC (.str "number"))))) (fun W => (tDrop (tMethS X.Day "rest" (spOf K (T_Day_rest X)) (WE W) (tVar 0) (tCons (tVar 1) tNil)))))
    (tRet (tC (.bl false))))
theorem big_qno_number (k : KitOk K X X.NoDebt 6) (h : T_qno_number X M ws o) : BigF K E (t_qno_number K X) (args 3 ws) M o := by
  obtain ⟨j, j1, j2, c, ds, rs, d, rfl, D, e, rfl⟩ := h
  exact .rt (.seqR (.tryDM_er (o := .rt (db true) M) (ws := [.dat d]) (.var rfl) D.d rfl (ea_cons (.var rfl) ea_nil) ⟨j, j1, j2, c, ds, rs, d, rfl, D, .inr ⟨e, rfl⟩⟩ k.d fun a => .ret (kind_eq (by decide) k rfl rfl .str)))
def noC (x : Int) : List PyData := [.int 0, .int (-1), .int 21, .bool true, .none, .str "3", .int (20 + x / 8 % 1000003 + 1), .bool false]
def T_qno_count (M : List Cell) (ws : List W) (o : Res) : Prop := ∃ x : Int, ws = [di x] ∧ o = .ret (db true) M
def t_qno_count (K : PySem.W.Frag) (X : Xs) : TS := (tSeq (tTry K X.DebtError 1 (fun a cls d => (tRet (tOp rEq (tCall (spS K (T_qkind K X) a cls d) [] E0 (tCons (tVar 1) tNil)) (tC (.str "count"))))) (fun W => (tDrop (tMakeS X.Day (spOf K (T_Day_init X)) (WE W) (tCons (tOp (rIx K) (tLst (tCons (tC (.int 0)) (tCons (tUn xNeg (tC (.int 1))) (tCons (tC (.int 21)) (tCons (tC (.bl true)) (tCons (tC .non) (tCons (tC (.str "3")) (tCons (tOp xAdd (tOp xAdd (tC (.int 20)) (tOp xMod (tOp xDiv (tVar 0) (tC (.int 8))) (tC (.int 1000003)))) (tC (.int 1))) (tCons (tC (.bl false)) tNil))))))))) (tOp xMod (tVar 0) (tC (.int 8)))) tNil)))))
    (tRet (tC (.bl false))))
theorem noC_no {x : Int} : ∀ e ∈ noC x, wh 1 20 e = false := by
  intro e he
  unfold noC at he
  simp only [List.mem_cons, List.not_mem_nil, or_false] at he
  have h0 := Int.emod_nonneg (x / 8) (show (1000003 : Int) ≠ 0 by omega)
  rcases he with rfl | rfl | rfl | rfl | rfl | rfl | rfl | rfl
  · rfl
  · rfl
  · rfl
  · rfl
  · rfl
  · rfl
  · rw [whI]
    exact dec_f (by omega)
  · rfl
theorem getD_memP {l : List PyData} {i : Nat} (h : i < l.length) : l.getD i .none ∈ l := by
  rw [List.getD_eq_getElem?_getD, List.getElem?_eq_getElem h]
  exact List.getElem_mem h
theorem pick_ev {l : List PyData} {i : Int} (h : Ev K te s M (dl l) M) (hi : Ev K ta s M (di i) M) (h0 : 0 ≤ i) (h1 : i < l.length) : Ev K (tOp (rIx K) te ta) s M (.dat (l.getD i.toNat .none)) M :=
  .ixG h hi (.dat (atI_nat' (n := i.toNat) (by rw [List.getD_eq_getElem?_getD, List.getElem?_eq_getElem (by omega)] <;> rfl) (by omega)))
theorem big_qno_count (k : KitOk K X X.BadCount 0) (h : T_qno_count M ws o) : BigF K E (t_qno_count K X) (args 2 ws) M o := by
  obtain ⟨x, rfl, rfl⟩ := h
  have h0 := Int.emod_nonneg x (show (8 : Int) ≠ 0 by omega)
  have h1 := Int.emod_lt_of_pos x (show (0 : Int) < 8 by omega)
  have hm : wh 1 20 ((noC x).getD (x % 8).toNat .none) = false := noC_no _ (getD_memP (by show _ < 8; omega))
  have ev : Ev K (tOp (rIx K) (tLst (tCons (tC (.int 0)) (tCons (tUn xNeg (tC (.int 1))) (tCons (tC (.int 21)) (tCons (tC (.bl true)) (tCons (tC .non) (tCons (tC (.str "3")) (tCons (tOp xAdd (tOp xAdd (tC (.int 20)) (tOp xMod (tOp xDiv (tVar 0) (tC (.int 8))) (tC (.int 1000003)))) (tC (.int 1))) (tCons (tC (.bl false)) tNil))))))))) (tOp xMod (tVar 0) (tC (.int 8)))) (args 2 [di x]) M (.dat ((noC x).getD (x % 8).toNat .none)) M :=
    pick_ev (.lst (ed_cons .int (ed_cons (.neg .int) (ed_cons .int (ed_cons .bl (ed_cons .non (ed_cons .str (ed_cons (.add (.add .int (.mod (.div (.var rfl) .int (by decide)) .int (by decide))) .int) (ed_cons .bl ea_nil)))))))) (Nat.le_of_ble_eq_true rfl)) (.mod (.var rfl) .int (by decide)) h0 (by show _ < (8 : Int); omega)
  refine .dat (N0 := [Cell.ins X.Day []]) (.seqR (.tryDK_er (o := .rt (db true) (M ++ [Cell.ins X.Day []])) (ws := [.dat ((noC x).getD (x % 8).toNat .none)]) (ea_cons ev ea_nil) ⟨M.length, _, rfl, ?_, .inr ⟨hm, rfl⟩⟩ k.d fun a => .ret (kind_eq (by decide) k rfl rfl .str)))
  rw [List.getElem?_append_right (Nat.le_refl _), Nat.sub_self] <;> rfl
/-! ### three questions -/
def a_qtold (K : PySem.W.Frag) (X : Xs) : TS := (tSeq (tAsg (tLc (iRng1 (tCons (tCB (rLenX K) (tCons (tVar 1) tNil)) tNil)) (gName 9) tYes (tMeth X.Day "rest" (spOf K (T_Day_rest X)) [] E0 (tVar 0) (tCons (tVar 9) tNil)) [9]) (gName 4))
    (tRet (tAndV (tOp (rEqD K) (tVar 4) (tLc (iList K (tVar 1)) (gName 5) tYes (tOp (rIx K) (tVar 5) (tC (.int 2))) [5])) (tCB (rAll K) (tCons (tLc (iList K (tVar 4)) (gName 10) tYes (tCall (spOf K T_qwhole) [] E0 (tCons (tVar 10) tNil)) [10]) tNil)))))
def d_qtold (K : PySem.W.Frag) : TS := (tIfS (tOr (tNot (tB (tCB (rIsi K) (tCons (tVar 5) (tCons (tC (.ty "tuple")) tNil))))) (tNot (tB (tCB (rAll K) (tCons (tLc (iTup K (tVar 5)) (gName 11) tYes (tCall (spOf K T_qwhole) [] E0 (tCons (tVar 11) tNil)) [11]) tNil))))) (tRet (tC (.bl false))) tNext)
def b_qtold (K : PySem.W.Frag) (X : Xs) : TS := (tSeq (tAsg (tLc (iRng1 (tCons (tCB (rLenX K) (tCons (tVar 1) tNil)) tNil)) (gName 9) (tTest (tOp xGt (tOp (rIx K) (tOp (rIx K) (tVar 1) (tVar 9)) (tC (.int 2))) (tC (.int 0)))) (tTup (tCons (tVar 9) (tCons (tOp (rIx K) (tOp (rIx K) (tVar 1) (tVar 9)) (tC (.int 0))) (tCons (tOp (rIx K) (tOp (rIx K) (tVar 1) (tVar 9)) (tC (.int 1))) (tCons (tOp (rIx K) (tOp (rIx K) (tVar 1) (tVar 9)) (tC (.int 2))) tNil))))) [9]) (gName 6))
    (tSeq (tAsg (tMeth X.Day "standing" (spOf K (T_Day_standing X)) [] E0 (tVar 0) tNil) (gName 4))
    (tSeq (tIfS (tOr (tNot (tB (tCB (rIsi K) (tCons (tVar 4) (tCons (tC (.ty "list")) tNil))))) (tTest (tOp (rNeD K) (tVar 4) (tVar 6)))) (tRet (tC (.bl false))) tNext)
    (tSeq (tFor (iList K (tVar 4)) (gName 5) (d_qtold K))
    (tSeq (tDrop (tBM K "list" rAppend (tVar 4) (tCons (tTup (tCons (tC (.int 0)) (tCons (tC (.int 0)) (tCons (tC (.int 0)) (tCons (tC (.int 0)) tNil))))) tNil)))
    (tRet (tAndV (tOp (rEqD K) (tMeth X.Day "standing" (spOf K (T_Day_standing X)) [] E0 (tVar 0) tNil) (tVar 6)) (tOp rEq (tCB (rLenX K) (tCons (tVar 4) tNil)) (tOp xAdd (tCB (rLenX K) (tCons (tVar 6) tNil)) (tC (.int 1)))))))))))
def e_qtold (K : PySem.W.Frag) : TS := (tSeq (tAsg (tOp xSub (tOp (rIx K) (tVar 7) (tOp (rIx K) (tVar 5) (tC (.int 0)))) (tOp (rIx K) (tVar 5) (tC (.int 2)))) (gSub (tVar 7) (tOp (rIx K) (tVar 5) (tC (.int 0))) rSetL))
    (tAsg (tOp xAdd (tOp (rIx K) (tVar 7) (tOp (rIx K) (tVar 5) (tC (.int 1)))) (tOp (rIx K) (tVar 5) (tC (.int 2)))) (gSub (tVar 7) (tOp (rIx K) (tVar 5) (tC (.int 1))) rSetL)))
def c_qtold (K : PySem.W.Frag) (X : Xs) : TS := (tSeq (tAsg (tLc (iRng1 (tCons (tVar 2) tNil)) (gName 8) tYes (tC (.int 0)) [8]) (gName 7))
    (tSeq (tFor (iList K (tVar 1)) (gName 5) (e_qtold K))
    (tSeq (tAsg (tLc (iRng1 (tCons (tVar 2) tNil)) (gName 8) tYes (tMeth X.Day "balance" (spOf K (T_Day_balance X)) [] E0 (tVar 0) (tCons (tVar 8) tNil)) [8]) (gName 4))
    (tRet (tAndV (tOp (rEqD K) (tVar 4) (tVar 7)) (tCB (rAll K) (tCons (tLc (iList K (tVar 4)) (gName 10) tYes (tCall (spOf K T_qwhole) [] E0 (tCons (tVar 10) tNil)) [10]) tNil)))))))
def t_qtold (K : PySem.W.Frag) (X : Xs) : TS := (tSeq (tIfS (tTest (tOp rEq (tVar 3) (tC (.int 0)))) (a_qtold K X) tNext)
    (tSeq (tIfS (tTest (tOp rEq (tVar 3) (tC (.int 1)))) (b_qtold K X) tNext)
    (c_qtold K X)))
def T_qtold (X : Xs) (M : List Cell) (ws : List W) (o : Res) : Prop := ∃ (j j1 j2 r c : Nat) (ds : List Dt) (rs : List Int) (ix : List Nat) (w : Int), ws = [.cel j, .cel r, di c, di w] ∧ DayC X.Day M j j1 j2 c ds rs ∧ RowsC M r ix ds rs ∧ o = .ret (db true) M
theorem all_whole {s : List Sl} {l : List Int} {i n : Nat} (h : Ev K (tVar i) s M (dl (iI l)) M) (hn : n < s.length) (hl : l.length ≤ 1000) : Ev K (tCB (rAll K) (tCons (tLc (iList K (tVar i)) (gName n) tYes (tCall (spOf K T_qwhole) [] E0 (tCons (tVar n) tNil)) [n]) tNil)) s M (db true) M := by
  refine .is (.all (bs := l.map fun _ => true) (.is (.lcL1 (xs := l) (enc := di) (f := fun _ => PyData.bool true) h lst_iI (by omega) fun x _ => .call (w := db true) (ea_cons (.var (by rw [List.getElem?_set_self hn])) ea_nil) ⟨.int x, rfl, rfl⟩) ?_)) ?_
  · rw [List.map_map] <;> rfl
  · have : (l.map fun _ => true).all id = true := List.all_eq_true.mpr fun x hx => by
      obtain ⟨_, _, rfl⟩ := List.mem_map.mp hx
      rfl
    rw [this]
def rsL (ds : List Dt) (rs : List Int) : List Int := (List.range ds.length).map fun n => rs.getD n 0
theorem told_a {s5 s6 s7 s8 s9 s10 s11 : Sl} {w : W} (D : DayC X.Day M j j1 j2 c ds rs) (R : RowsC M r ix ds rs) : Big K E (a_qtold K X) [some (.cel j), some (.cel r), some (di c), some w, none, s5, s6, s7, s8, s9, s10, s11] M (.rt (db true) M) := by
  have hl := D.lim
  have e1 : (List.range ds.length).map (fun n => PyData.int (rs.getD n 0)) = iI (rsL ds rs) := by
    unfold rsL iI
    rw [List.map_map] <;> rfl
  refine .st (w := dl (iI (rsL ds rs))) (.is (.lcR1 (m := (ds.length : Int)) (g := fun n => PyData.int (rs.getD n 0)) (ea_cons (rows_len R (.var rfl)) ea_nil) (by omega) fun a ha => .meth (ws := [natW a]) (.var rfl) D.d rfl (ea_cons (.var rfl) ea_nil) ⟨j, j1, j2, c, ds, rs, _, rfl, D, .inl ⟨a, by omega, rfl, rfl⟩⟩) (by rw [show (ds.length : Int).toNat = ds.length by omega, e1])) ?_
  refine .ret (.is (w := db (true && true)) (.and (.eqP 1 (d := .list (iI (rsL ds rs))) (e := .list (iI (rsL ds rs))) (.var rfl) (w2 := dl (iI (rsL ds rs))) (.is (.lcL1 (xs := List.range ds.length) (enc := fun n => .cel (ix.getD n 0)) (f := fun n => PyData.int (rs.getD n 0)) (.var rfl) (by rw [ix_range R]; exact .cel R.r) (by rw [List.length_range]; omega) fun n hn => row_c R (.var rfl) (List.mem_range.mp hn)) (by rw [e1])) (.dat _) (.dat _) (by decide) (pI_ints _) (pI_ints _) (by simp)) fun _ => all_whole (.var rfl) (by show (10 : Nat) < 12; omega) (by unfold rsL; rw [List.length_map, List.length_range]; omega)) rfl)
theorem told_b {s7 s8 s9 s10 s11 : Sl} {w : W} (D : DayC X.Day M j j1 j2 c ds rs) (R : RowsC M r ix ds rs) : ∃ N, Big K E (b_qtold K X) [some (.cel j), some (.cel r), some (di c), some w, none, none, none, s7, s8, s9, s10, s11] M (.rt (db true) (M ++ N)) := by
  have hl := D.lim
  have hlen : (stN ds rs).length ≤ ds.length := Nat.le_trans (List.length_filter_le _ _) (by rw [List.length_range]; exact Nat.le_refl _)
  have pS : pI 2 (.list (stF ds rs)) = true := by
    unfold stF
    exact pI_map fun _ _ => rfl
  have eW : (stF ds rs).map W.dat = (stN ds rs).map fun n => W.dat (stP ds rs n) := by
    unfold stF
    rw [List.map_map] <;> rfl
  have due : Ev K (tLc (iRng1 (tCons (tCB (rLenX K) (tCons (tVar 1) tNil)) tNil)) (gName 9) (tTest (tOp xGt (tOp (rIx K) (tOp (rIx K) (tVar 1) (tVar 9)) (tC (.int 2))) (tC (.int 0)))) (tTup (tCons (tVar 9) (tCons (tOp (rIx K) (tOp (rIx K) (tVar 1) (tVar 9)) (tC (.int 0))) (tCons (tOp (rIx K) (tOp (rIx K) (tVar 1) (tVar 9)) (tC (.int 1))) (tCons (tOp (rIx K) (tOp (rIx K) (tVar 1) (tVar 9)) (tC (.int 2))) tNil))))) [9]) [some (.cel j), some (.cel r), some (di c), some w, none, none, none, s7, s8, s9, s10, s11] M (dl (stF ds rs)) M :=
    .lcR (m := (ds.length : Int)) (p := fun n => decide (0 < rs.getD n 0)) (f := stP ds rs) (ea_cons (rows_len R (.var rfl)) ea_nil) (by omega) (fun n hn => .test (.gt (row_c R (row_ev R (.var rfl) (.var rfl) (by omega)) (by omega)) .int)) fun n hn _ =>
      .tup (ed_cons (.var rfl) (ed_cons (row_a R (row_ev R (.var rfl) (.var rfl) (by omega)) (by omega)) (ed_cons (row_b R (row_ev R (.var rfl) (.var rfl) (by omega)) (by omega)) (ed_cons (row_c R (row_ev R (.var rfl) (.var rfl) (by omega)) (by omega)) ea_nil)))) (Nat.le_of_ble_eq_true rfl)
  refine ⟨[Cell.lst ((stF ds rs).map .dat ++ [dt [.int 0, .int 0, .int 0, .int 0]])], .st due (.seq (s1 := [some (.cel j), some (.cel r), some (di c), some w, some (.cel (M.length + 0)), none, some (dl (stF ds rs)), s7, s8, s9, s10, s11]) (M1 := M ++ [Cell.lst ((stF ds rs).map .dat)]) (.asg (.meth (ws := []) (.var rfl) D.d rfl ea_nil ⟨j, j1, j2, c, ds, rs, rfl, D, .inr rfl⟩)) ?_)⟩
  refine .seqIte (b := !true || !true) (.or (.not (.val (.isiL (.var rfl) (.cel (getL (n := 0) rfl)) (fun ns z => by cases z) rfl (kit_lst (.list []))))) fun _ => .test (.neP 2 (d := .list (stF ds rs)) (e := .list (stF ds rs)) (.var rfl) (.var rfl) (.cel (getL (n := 0) rfl)) (.dat _) (by decide) pS pS (by simp))) (fun z => nomatch z) fun _ => .seqN ?_
  refine .seq (s1 := [some (.cel j), some (.cel r), some (di c), some w, some (.cel (M.length + 0)), none, some (dl (stF ds rs)), s7, s8, s9, s10, s11]) (M1 := M ++ [Cell.lst ((stF ds rs).map .dat)]) (.forC (j := M.length + 0) (ws := (stF ds rs).map .dat) (.var rfl) ?_) ?_
  · conv => arg 6; rw [eW]
    refine forP_idle (I := fun s => ∃ a, s = [some (.cel j), some (.cel r), some (di c), some w, some (.cel (M.length + 0)), a, some (dl (stF ds rs)), s7, s8, s9, s10, s11]) (getL (n := 0) rfl) ?_ (stN ds rs) ?_ _ ⟨_, rfl⟩
    · rintro _ ⟨a, rfl⟩
      exact .cons (.inr rfl) (.cons (.inr rfl) (.cons (.inr rfl) (.cons (.inr rfl) (.cons (.inr rfl) (.cons (.inl rfl) (.cons (.inr rfl) (.cons (.inr rfl) (.cons (.inr rfl) (.cons (.inr rfl) (.cons (.inr rfl) (.cons (.inr rfl) .nil)))))))))))
    · rintro n hn _ ⟨a, rfl⟩
      refine ⟨[some (.cel j), some (.cel r), some (di c), some w, some (.cel (M.length + 0)), some (.dat (stP ds rs n)), some (dl (stF ds rs)), s7, s8, s9, s10, s11], ⟨_, rfl⟩, .name (.ite (b := !true || !true) (.or (.not (.val (.isT (.var rfl) (kit_tup _)))) fun _ => .not (.val (.all (bs := [true, true, true, true]) (.is (.lcT (xs := [(n : Int), dA ds n, dB ds n, rs.getD n 0]) (enc := PyData.int) (p := fun _ => true) (f := fun _ => PyData.bool true) (.var rfl) (Nat.le_of_ble_eq_true rfl) (fun _ _ => .yes) fun x _ _ => .call (w := db true) (ea_cons (.var rfl) ea_nil) ⟨.int x, rfl, rfl⟩) rfl)))) (fun z => nomatch z) fun _ => .next)⟩
  · refine .seq (s1 := [some (.cel j), some (.cel r), some (di c), some w, some (.cel (M.length + 0)), none, some (dl (stF ds rs)), s7, s8, s9, s10, s11]) (M1 := M ++ [Cell.lst ((stF ds rs).map .dat ++ [dt [.int 0, .int 0, .int 0, .int 0]])]) (.appendL (k := 0) (w := dt [.int 0, .int 0, .int 0, .int 0]) (.var rfl) (.tup (ed_cons .int (ed_cons .int (ed_cons .int (ed_cons .int ea_nil)))) (Nat.le_of_ble_eq_true rfl)) rfl ?_) (.ret (.is (w := db (true && true)) (.and (.eqP 2 (d := .list (stF ds rs)) (e := .list (stF ds rs)) (.meth (ws := []) (w := dl (stF ds rs)) (.var rfl) D.app.d rfl ea_nil ⟨j, j1, j2, c, ds, rs, rfl, D.app, .inl rfl⟩) (.var rfl) (.dat _) (.dat _) (by decide) pS pS (by simp)) fun _ => .is (.eq (.lenG (.var rfl) (.lst (.cel (getL (n := 0) rfl)))) (.add (.lenG (.var rfl) .dl) .int) (.int _ _)) ?_) rfl))
    · rw [List.length_map]
      unfold stF
      rw [List.length_map]
      omega
    · rw [decide_eq_true (by rw [List.length_append, List.length_map, List.length_singleton]; omega)]
/-! ### sums -/
theorem sum_filter2 {α : Type} {g : α → Int} {p : α → Bool} : ∀ {l : List α}, (∀ x ∈ l, p x = false → g x = 0) → ((l.filter p).map g).sum = (l.map g).sum
  | [], _ => rfl
  | x :: l, h => by
    have ih := sum_filter2 (g := g) (p := p) (l := l) fun y hy => h y (List.mem_cons_of_mem _ hy)
    rw [List.map_cons, List.sum_cons]
    cases q : p x with
    | true => rw [List.filter_cons_of_pos q, List.map_cons, List.sum_cons, ih]
    | false =>
      rw [List.filter_cons_of_neg (by rw [q]; exact Bool.false_ne_true), ih, h x List.mem_cons_self q]
      omega
theorem all_bal (D : DayC C M j j1 j2 c ds rs) : bal c (allD ds rs) = bal c (stD ds rs) := by
  have hb : ∀ d ∈ allD ds rs, d.a < c ∧ d.b < c := fun d hd => by
    obtain ⟨n, hn, rfl⟩ := List.mem_map.mp hd
    have q := D.ok _ (getD_mem (List.mem_range.mp hn))
    exact ⟨q.a, q.b⟩
  refine ext_getD (by rw [bal_len, bal_len]) fun h _ => ?_
  unfold bal
  rw [bal_get (c := c) _ _ List.length_replicate hb, bal_get (c := c) _ _ List.length_replicate (stD_ab D)]
  unfold allD stD stN
  rw [List.map_map, List.map_map]
  have e := sum_filter2 (g := (fun d : Dt => d.m * (at1 d.b h - at1 d.a h)) ∘ fun n => (⟨dA ds n, dB ds n, rs.getD n 0⟩ : Dt)) (p := fun n => decide (0 < rs.getD n 0)) (l := List.range ds.length) (fun n hn q => by
    have h1 := (D.lo n (List.mem_range.mp hn)).1
    have h2 := of_decide_eq_false q
    show rs.getD n 0 * _ = 0
    rw [show rs.getD n 0 = 0 by omega, Int.zero_mul])
  rw [e]
theorem sum_loop (D : DayC X.Day M j j1 j2 c ds rs) (R : RowsC M r ix ds rs) {s0 s1 s2 s3 s4 s6 s8 s9 s10 s11 : Sl} : ∀ (l : List Nat) (f : List Int) (a5 : Sl), (∀ n ∈ l, n < ds.length) → f.length = c →
    ForP K E (fun N => N[r]? = some (.lst (ix.map W.cel))) (gName 5) (e_qtold K) (l.map fun n => W.cel (ix.getD n 0)) [s0, s1, s2, s3, s4, a5, s6, some (.cel (M.length + 0)), s8, s9, s10, s11] (M ++ [Cell.lst (f.map di)])
      (.nx [s0, s1, s2, s3, s4, none, s6, some (.cel (M.length + 0)), s8, s9, s10, s11] (M ++ [Cell.lst (((l.map fun n => (⟨dA ds n, dB ds n, rs.getD n 0⟩ : Dt)).foldl balStep f).map di)]))
  | [], f, a5, _, _ => ⟨R.app.r, _, .cons (.inr rfl) (.cons (.inr rfl) (.cons (.inr rfl) (.cons (.inr rfl) (.cons (.inr rfl) (.cons (.inl rfl) (.cons (.inr rfl) (.cons (.inr rfl) (.cons (.inr rfl) (.cons (.inr rfl) (.cons (.inr rfl) (.cons (.inr rfl) .nil))))))))))), rfl⟩
  | n :: l, f, a5, h, hf => by
    have hn := h n List.mem_cons_self
    have q := D.ok _ (getD_mem hn)
    have ha : dA ds n < c := q.a
    have hb : dB ds n < c := q.b
    have ih := sum_loop D R (s0 := s0) (s1 := s1) (s2 := s2) (s3 := s3) (s4 := s4) (s6 := s6) (s8 := s8) (s9 := s9) (s10 := s10) (s11 := s11) l (balStep f ⟨dA ds n, dB ds n, rs.getD n 0⟩) (some (.cel (ix.getD n 0))) (fun m hm => h m (List.mem_cons_of_mem _ hm)) (by rw [balStep_len, hf])
    have ev : ∀ {f : List Int} {a : Nat} {t : TE}, f.length = c → a < c → Ev K t [s0, s1, s2, s3, s4, some (.cel (ix.getD n 0)), s6, some (.cel (M.length + 0)), s8, s9, s10, s11] (M ++ [Cell.lst (f.map di)]) (natW a) (M ++ [Cell.lst (f.map di)]) → Ev K (tOp (rIx K) (tVar 7) t) [s0, s1, s2, s3, s4, some (.cel (ix.getD n 0)), s6, some (.cel (M.length + 0)), s8, s9, s10, s11] (M ++ [Cell.lst (f.map di)]) (di (f.getD a 0)) (M ++ [Cell.lst (f.map di)]) := fun {f a t} hf ha h =>
      .ixG (.var rfl) h (.lst (.cel (getL (n := 0) rfl)) (atI_map (atI_nat (getD_some (by omega)))))
    have b : Big K E (e_qtold K) [s0, s1, s2, s3, s4, some (.cel (ix.getD n 0)), s6, some (.cel (M.length + 0)), s8, s9, s10, s11] (M ++ [Cell.lst (f.map di)]) (.nx [s0, s1, s2, s3, s4, some (.cel (ix.getD n 0)), s6, some (.cel (M.length + 0)), s8, s9, s10, s11] (M ++ [Cell.lst ((balStep f ⟨dA ds n, dB ds n, rs.getD n 0⟩).map di)])) := by
      refine .seq (s1 := [s0, s1, s2, s3, s4, some (.cel (ix.getD n 0)), s6, some (.cel (M.length + 0)), s8, s9, s10, s11]) (M1 := M ++ [Cell.lst ((addAt f (dA ds n) (-(rs.getD n 0))).map di)]) (.is (.setItemL (k := 0) (w := di (f.getD (dA ds n) 0 - rs.getD n 0)) (i := (dA ds n : Int)) (n := dA ds n) (.sub (ev hf ha (row_a R.app (.var rfl) hn)) (row_c R.app (.var rfl) hn)) (.var rfl) (row_a R.app (.var rfl) hn) rfl ?_) ?_) (.is (.setItemL (k := 0) (w := di ((addAt f (dA ds n) (-(rs.getD n 0))).getD (dB ds n) 0 + rs.getD n 0)) (i := (dB ds n : Int)) (n := dB ds n) (.add (ev (by rw [addAt_len, hf]) hb (row_b R.app (.var rfl) hn)) (row_c R.app (.var rfl) hn)) (.var rfl) (row_b R.app (.var rfl) hn) rfl ?_) ?_)
      · rw [List.length_map]
        exact ixN_nat (by omega)
      · rw [set_map_di]
        unfold addAt
        rw [Int.sub_eq_add_neg] <;> rfl
      · rw [List.length_map, addAt_len]
        exact ixN_nat (by omega)
      · rw [set_map_di] <;> rfl
    exact ⟨R.app.r, _, .name b, ih⟩
theorem told_c {s6 s8 s9 s10 s11 : Sl} {w : W} (D : DayC X.Day M j j1 j2 c ds rs) (R : RowsC M r ix ds rs) : ∃ N, Big K E (c_qtold K X) [some (.cel j), some (.cel r), some (di c), some w, none, none, s6, none, s8, s9, s10, s11] M (.rt (db true) (M ++ N)) := by
  have hc := D.cl
  have hl := D.lim
  have lp := sum_loop (K := K) (E := E) D R (s0 := some (.cel j)) (s1 := some (.cel r)) (s2 := some (di c)) (s3 := some w) (s4 := none) (s6 := s6) (s8 := s8) (s9 := s9) (s10 := s10) (s11 := s11) (List.range ds.length) (List.replicate c 0) none (fun n hn => List.mem_range.mp hn) List.length_replicate
  rw [ix_range R] at lp
  have lp : ForP K E (fun N => N[r]? = some (.lst (ix.map W.cel))) (gName 5) (e_qtold K) (ix.map W.cel) [some (.cel j), some (.cel r), some (di c), some w, none, none, s6, some (.cel (M.length + 0)), s8, s9, s10, s11] (M ++ [Cell.lst ((List.replicate c 0).map di)])
      (.nx [some (.cel j), some (.cel r), some (di c), some w, none, none, s6, some (.cel (M.length + 0)), s8, s9, s10, s11] (M ++ [Cell.lst ((bal c (allD ds rs)).map di)])) := lp
  rw [all_bal D] at lp
  have eb : (List.range c).map (fun h => PyData.int ((bal c (stD ds rs)).getD h 0)) = iI (bal c (stD ds rs)) := by
    unfold iI
    apply List.ext_getElem (by rw [List.length_map, List.length_map, List.length_range, bal_len])
    intro n h1 h2
    rw [List.length_map] at h2
    rw [List.getElem_map, List.getElem_map, List.getElem_range, List.getD_eq_getElem?_getD, List.getElem?_eq_getElem h2] <;> rfl
  refine ⟨[Cell.lst ((bal c (stD ds rs)).map di)], .seq (s1 := [some (.cel j), some (.cel r), some (di c), some w, none, none, s6, some (.cel (M.length + 0)), s8, s9, s10, s11]) (M1 := M ++ [Cell.lst ((List.replicate c 0).map di)]) (.asg (.isM (.lcRC1 (m := (c : Int)) (g := fun _ => PyData.int 0) (ea_cons (.var rfl) ea_nil) (by omega) fun _ _ => .int) ?_)) (.seq (.forC (.var rfl) lp) (.st (w := dl (iI (bal c (stD ds rs)))) (.is (.lcR1 (m := (c : Int)) (g := fun h => PyData.int ((bal c (stD ds rs)).getD h 0)) (ea_cons (.var rfl) ea_nil) (by omega) fun a ha => .meth (ws := [natW a]) (.var rfl) D.app.d rfl (ea_cons (.var rfl) ea_nil) ⟨j, j1, j2, c, ds, rs, _, rfl, D.app, .inl ⟨a, by omega, rfl, rfl⟩⟩) (by rw [show (c : Int).toNat = c by omega, eb])) (.ret (.is (w := db (true && true)) (.and (.eqP 1 (d := .list (iI (bal c (stD ds rs)))) (e := .list (iI (bal c (stD ds rs)))) (.var rfl) (.var rfl) (.dat _) (.cel ?_) (by decide) (pI_ints _) (pI_ints _) (by simp)) fun _ => all_whole (.var rfl) (by show (10 : Nat) < 12; omega) (by rw [bal_len]; omega)) rfl))))⟩
  · rw [show (c : Int).toNat = c by omega, List.map_const', List.length_range, List.map_replicate, List.map_replicate] <;> rfl
  · rw [map_dat_ints]
    exact getL (n := 0) rfl
theorem big_qtold (h : T_qtold X M ws o) : BigF K E (t_qtold K X) (args 12 ws) M o := by
  obtain ⟨j, j1, j2, r, c, ds, rs, ix, w, rfl, D, R, rfl⟩ := h
  have t0 : EvB K (tTest (tOp rEq (tVar 3) (tC (.int 0)))) (args 12 [.cel j, .cel r, di c, di w]) M (decide (w = 0)) M := .test (.eq (.var rfl) .int (.int _ _))
  have t1 : EvB K (tTest (tOp rEq (tVar 3) (tC (.int 1)))) (args 12 [.cel j, .cel r, di c, di w]) M (decide (w = 1)) M := .test (.eq (.var rfl) .int (.int _ _))
  by_cases q0 : w = 0
  · exact .rt (.seqIte t0 (fun _ => .seqR (told_a D R)) fun z => absurd q0 (of_decide_eq_false z))
  · by_cases q1 : w = 1
    · obtain ⟨N, hb⟩ := told_b (K := K) (E := E) (X := X) (w := di w) (s7 := none) (s8 := none) (s9 := none) (s10 := none) (s11 := none) D R
      exact .dat (N0 := N) (.seqIte t0 (fun z => absurd (of_decide_eq_true z) q0) fun _ => .seqN (.seqIte t1 (fun _ => .seqR hb) fun z => absurd q1 (of_decide_eq_false z)))
    · obtain ⟨N, hb⟩ := told_c (K := K) (E := E) (X := X) (w := di w) (s6 := none) (s8 := none) (s9 := none) (s10 := none) (s11 := none) D R
      exact .dat (N0 := N) (.seqIte t0 (fun z => absurd (of_decide_eq_true z) q0) fun _ => .seqN (.seqIte t1 (fun z => absurd (of_decide_eq_true z) q1) fun _ => .seqN hb))
def ways : List (List Int) := [[0, 1, 2], [2, 1, 0], [1], [0], [2], [1, 2, 0], [], [2, 0], [0, 2]]
def T_qstands (X : Xs) (M : List Cell) (ws : List W) (o : Res) : Prop := ∃ (j j1 j2 r c : Nat) (ds : List Dt) (rs : List Int) (ix : List Nat) (x : Int), ws = [.cel j, .cel r, di c, di x] ∧ DayC X.Day M j j1 j2 c ds rs ∧ RowsC M r ix ds rs ∧ o = .ret (db true) M
def l_qstands : TE := (tLst (tCons (tLst (tCons (tC (.int 0)) (tCons (tC (.int 1)) (tCons (tC (.int 2)) tNil)))) (tCons (tLst (tCons (tC (.int 2)) (tCons (tC (.int 1)) (tCons (tC (.int 0)) tNil)))) (tCons (tLst (tCons (tC (.int 1)) tNil)) (tCons (tLst (tCons (tC (.int 0)) tNil)) (tCons (tLst (tCons (tC (.int 2)) tNil)) (tCons (tLst (tCons (tC (.int 1)) (tCons (tC (.int 2)) (tCons (tC (.int 0)) tNil)))) (tCons (tLst tNil) (tCons (tLst (tCons (tC (.int 2)) (tCons (tC (.int 0)) tNil))) (tCons (tLst (tCons (tC (.int 0)) (tCons (tC (.int 2)) tNil))) tNil))))))))))
def t_qstands (K : PySem.W.Frag) (X : Xs) : TS := (tSeq (tAsg l_qstands (gName 4))
    (tRet (tCB (rAll K) (tCons (tLc (iList K (tOp (rIx K) (tVar 4) (tOp xMod (tVar 3) (tC (.int 9))))) (gName 5) tYes (tCall (spOf K (T_qtold X)) [] E0 (tCons (tVar 0) (tCons (tVar 1) (tCons (tVar 2) (tCons (tVar 5) tNil))))) [5]) tNil))))
theorem ways_len : ∀ l ∈ ways, l.length ≤ 3 := by decide
theorem lst3 {s : List Sl} {a b c : Int} : Ev K (tLst (tCons (tC (.int a)) (tCons (tC (.int b)) (tCons (tC (.int c)) tNil)))) s M (dl (iI [a, b, c])) M := .lst (ed_cons .int (ed_cons .int (ed_cons .int ea_nil))) (Nat.le_of_ble_eq_true rfl)
theorem lst2 {s : List Sl} {a b : Int} : Ev K (tLst (tCons (tC (.int a)) (tCons (tC (.int b)) tNil))) s M (dl (iI [a, b])) M := .lst (ed_cons .int (ed_cons .int ea_nil)) (Nat.le_of_ble_eq_true rfl)
theorem lst1 {s : List Sl} {a : Int} : Ev K (tLst (tCons (tC (.int a)) tNil)) s M (dl (iI [a])) M := .lst (ed_cons .int ea_nil) (Nat.le_of_ble_eq_true rfl)
theorem lst0 {s : List Sl} : Ev K (tLst tNil) s M (dl (iI [])) M := .lst ea_nil (Nat.le_of_ble_eq_true rfl)
theorem big_qstands (h : T_qstands X M ws o) : BigF K E (t_qstands K X) (args 6 ws) M o := by
  obtain ⟨j, j1, j2, r, c, ds, rs, ix, x, rfl, D, R, rfl⟩ := h
  have h0 := Int.emod_nonneg x (show (9 : Int) ≠ 0 by omega)
  have h1 := Int.emod_lt_of_pos x (show (0 : Int) < 9 by omega)
  have hlt : (x % 9).toNat < ways.length := by
    show _ < 9
    omega
  have hw := ways_len _ (List.getElem_mem hlt)
  refine .rt (.st (w := dl (ways.map fun l => PyData.list (iI l))) (.lst (ed_cons lst3 (ed_cons lst3 (ed_cons lst1 (ed_cons lst1 (ed_cons lst1 (ed_cons lst3 (ed_cons lst0 (ed_cons lst2 (ed_cons lst2 ea_nil))))))))) (Nat.le_of_ble_eq_true rfl)) (.ret (.is (.all (bs := ways[(x % 9).toNat].map fun _ => true) (.is (.lcL1 (xs := ways[(x % 9).toNat]) (enc := di) (f := fun _ => PyData.bool true) (.ixG (w1 := dl (iI ways[(x % 9).toNat])) (.var rfl) (.mod (.var rfl) .int (by decide)) (.map (f := fun l => PyData.list (iI l)) (atI_nat' (List.getElem?_eq_getElem hlt) (by omega)))) lst_iI (by omega) fun y _ => .call (w := db true) (ea_cons (.var rfl) (ea_cons (.var rfl) (ea_cons (.var rfl) (ea_cons (.var rfl) ea_nil)))) ⟨j, j1, j2, r, c, ds, rs, ix, y, rfl, D, R, rfl⟩) ?_)) ?_)))
  · rw [List.map_map] <;> rfl
  · have : (ways[(x % 9).toNat].map fun _ => true).all id = true := List.all_eq_true.mpr fun x hx => by
      obtain ⟨_, _, rfl⟩ := List.mem_map.mp hx
      rfl
    rw [this]
end
end Bk

set_option Elab.async false
set_option linter.all false
set_option maxRecDepth 100000
set_option maxHeartbeats 4000000
/-! O10: the law k10: deeds -/
namespace Bk
open PySem L2 Vx HotP
/-- a day and the law's rows of it -/
structure DayI (C : Addr) (M : List Cell) (j j1 j2 r : Nat) (ix : List Nat) (c : Nat) (ds : List Dt) (rs : List Int) : Prop where
  D : DayC C M j j1 j2 c ds rs
  R : RowsC M r ix ds rs
  nd : ([j, j1, j2, r] ++ ix).Nodup
section
variable {C : Addr} {M M' : List Cell} {j j1 j2 r c : Nat} {ix : List Nat} {ds : List Dt} {rs : List Int}
theorem DayI.keep (h : DayI C M j j1 j2 r ix c ds rs) (k : ∀ i ∈ [j, j1, j2, r] ++ ix, M'[i]? = M[i]?) : DayI C M' j j1 j2 r ix c ds rs := by
  have k1 : ∀ i ∈ [j, j1, j2, r], M'[i]? = M[i]? := fun i hi => k i (List.mem_append_left _ hi)
  have D := h.D
  refine ⟨⟨by rw [k1 j (by simp)]; exact D.d, by rw [k1 j1 (by simp)]; exact D.c1, by rw [k1 j2 (by simp)]; exact D.c2, D.len, D.lim, D.c0, D.cl, D.ok, D.lo⟩, ⟨by rw [k1 r (by simp)]; exact h.R.r, h.R.len, fun n hn => ?_⟩, h.nd⟩
  rw [k _ (List.mem_append_right _ (getD_memN (by rw [h.R.len]; exact hn)))]
  exact h.R.it n hn
theorem DayI.app {L : List Cell} (h : DayI C M j j1 j2 r ix c ds rs) : DayI C (M ++ L) j j1 j2 r ix c ds rs := ⟨h.D.app, h.R.app, h.nd⟩
/-- where its cells lie -/
theorem DayI.lt (h : DayI C M j j1 j2 r ix c ds rs) : ∀ i ∈ [j, j1, j2, r] ++ ix, i < M.length := by
  intro i hi
  have up : ∀ {i : Nat} {x : Cell}, M[i]? = some x → i < M.length := fun e => (List.getElem?_eq_some_iff.mp e).1
  rcases List.mem_append.mp hi with hi | hi
  · simp only [List.mem_cons, List.not_mem_nil, or_false] at hi
    rcases hi with rfl | rfl | rfl | rfl
    · exact up h.D.d
    · exact up h.D.c1
    · exact up h.D.c2
    · exact up h.R.r
  · obtain ⟨n, hn, e⟩ := List.mem_iff_getElem.mp hi
    have := h.R.it n (by rw [← h.R.len]; exact hn)
    rw [List.getD_eq_getElem?_getD, List.getElem?_eq_getElem hn] at this
    rw [← e]
    exact up this
theorem DayI.ne (h : DayI C M j j1 j2 r ix c ds rs) : j ≠ j1 ∧ j ≠ j2 ∧ j ≠ r ∧ j1 ≠ j2 ∧ j1 ≠ r ∧ j2 ≠ r ∧ j ∉ ix ∧ j1 ∉ ix ∧ j2 ∉ ix ∧ r ∉ ix ∧ ix.Nodup := by
  have q := h.nd
  simp only [List.cons_append, List.nil_append, List.nodup_cons, List.mem_cons, not_or] at q
  obtain ⟨⟨a1, a2, a3, a4⟩, ⟨b1, b2, b3⟩, ⟨c1, c2⟩, d1, e1⟩ := q
  exact ⟨a1, a2, a3, b1, b2, c1, a4, b3, c2, d1, e1⟩
/-- a debt has come -/
def oweM (M : List Cell) (j1 j2 r : Nat) (ix : List Nat) (ds : List Dt) (rs : List Int) (d : Dt) : List Cell :=
  (((M.set j1 (.lst ((encDs (ds ++ [d])).map .dat))).set j2 (.lst ((rs ++ [d.m]).map di))) ++ [Cell.lst [di d.a, di d.b, di d.m]]).set r (.lst ((ix ++ [M.length]).map W.cel))
theorem oweM_at {d : Dt} {i : Nat} (h1 : i ≠ j1) (h2 : i ≠ j2) (h3 : i ≠ r) (hi : i < M.length) : (oweM M j1 j2 r ix ds rs d)[i]? = M[i]? := by
  unfold oweM
  rw [get_ne (Ne.symm h3), List.getElem?_append_left (by rw [List.length_set, List.length_set]; exact hi), get_ne (Ne.symm h2), get_ne (Ne.symm h1)]
theorem snoc_lt {α : Type} {l : List α} {d z : α} {n : Nat} (h : n < l.length) : (l ++ [d]).getD n z = l.getD n z := by
  rw [List.getD_eq_getElem?_getD, List.getD_eq_getElem?_getD, List.getElem?_append_left h]
theorem snoc_eq {α : Type} {l : List α} {d z : α} : (l ++ [d]).getD l.length z = d := by
  rw [List.getD_eq_getElem?_getD, List.getElem?_append_right (Nat.le_refl _), Nat.sub_self] <;> rfl
theorem DayI.owe {d : Dt} (h : DayI C M j j1 j2 r ix c ds rs) (ok : DtOk c d) (hl : ds.length < 500) : DayI C (oweM M j1 j2 r ix ds rs d) j j1 j2 r (ix ++ [M.length]) c (ds ++ [d]) (rs ++ [d.m]) := by
  obtain ⟨a1, a2, a3, b1, b2, c1, a4, b3, c2, d1, e1⟩ := h.ne
  have lt := h.lt
  have l1 : j < M.length := lt j (by simp)
  have l2 : j1 < M.length := lt j1 (by simp)
  have l3 : j2 < M.length := lt j2 (by simp)
  have l4 : r < M.length := lt r (by simp)
  have D := h.D
  have len := D.len
  have hM : (oweM M j1 j2 r ix ds rs d)[M.length]? = some (Cell.lst [di d.a, di d.b, di d.m]) := by
    unfold oweM
    rw [get_ne (by omega), List.getElem?_append_right (by rw [List.length_set, List.length_set]; exact Nat.le_refl _), List.length_set, List.length_set, Nat.sub_self] <;> rfl
  refine ⟨⟨?_, ?_, ?_, by rw [List.length_append, List.length_append, len] <;> rfl, by rw [List.length_append, List.length_singleton]; omega, D.c0, D.cl, fun e he => ?_, fun n hn => ?_⟩, ⟨?_, by rw [List.length_append, List.length_append, h.R.len] <;> rfl, fun n hn => ?_⟩, ?_⟩
  · rw [oweM_at a1 a2 a3 l1]
    exact D.d
  · unfold oweM
    rw [get_ne b2.symm, List.getElem?_append_left (by rw [List.length_set, List.length_set]; exact l2), get_ne b1.symm]
    exact get_set l2
  · unfold oweM
    rw [get_ne c1.symm, List.getElem?_append_left (by rw [List.length_set, List.length_set]; exact l3)]
    exact get_set (by rw [List.length_set]; exact l3)
  · rcases List.mem_append.mp he with he | he
    · exact D.ok e he
    · rw [List.mem_singleton.mp he]
      exact ok
  · rw [List.length_append, List.length_singleton] at hn
    by_cases q : n < ds.length
    · rw [snoc_lt (by omega)]
      exact D.lo n q
    · rw [show n = rs.length by omega, snoc_eq]
      have h1 := ok.lo
      have h2 := ok.hi
      omega
  · unfold oweM
    exact get_set (by rw [List.length_append, List.length_set, List.length_set]; omega)
  · rw [List.length_append, List.length_singleton] at hn
    by_cases q : n < ds.length
    · have hm := getD_memN (l := ix) (n := n) (by rw [h.R.len]; exact q)
      have nn : ∀ x, x ∉ ix → ix.getD n 0 ≠ x := fun x hx e => hx (e ▸ hm)
      rw [snoc_lt (by rw [h.R.len]; exact q), oweM_at (nn j1 b3) (nn j2 c2) (nn r d1) (lt _ (List.mem_append_right _ hm)), snoc_lt (by omega)]
      unfold dA dB
      rw [snoc_lt q]
      exact h.R.it n q
    · have e1 : n = ds.length := by omega
      have e2 : (ix ++ [M.length]).getD n 0 = M.length := by
        rw [e1, ← h.R.len, snoc_eq]
      have e3 : (rs ++ [d.m]).getD n 0 = d.m := by
        rw [e1, ← len, snoc_eq]
      rw [e2, e3, hM]
      unfold dA dB
      rw [e1, snoc_eq]
  · rw [← List.append_assoc]
    exact nodup_snoc' h.nd fun z => by
      have := lt _ z
      omega
/-- something has been paid -/
def payM (M : List Cell) (j2 : Nat) (ix : List Nat) (ds : List Dt) (rs : List Int) (n : Nat) (v : Int) : List Cell :=
  (M.set j2 (.lst ((rs.set n (rs.getD n 0 - v)).map di))).set (ix.getD n 0) (.lst [di (dA ds n), di (dB ds n), di (rs.getD n 0 - v)])
theorem payM_at {n i : Nat} {v : Int} (h1 : i ≠ j2) (h2 : i ≠ ix.getD n 0) : (payM M j2 ix ds rs n v)[i]? = M[i]? := by
  unfold payM
  rw [get_ne (Ne.symm h2), get_ne (Ne.symm h1)]
theorem getD_setI {l : List Int} {i n : Nat} {x : Int} (hi : i < l.length) : (l.set i x).getD n 0 = if i = n then x else l.getD n 0 := by
  rw [getD_set_eq]
  by_cases e : i = n
  · rw [if_pos ⟨e, hi⟩, if_pos e]
  · rw [if_neg (fun z => e z.1), if_neg e]
theorem nd_getD {l : List Nat} (h : l.Nodup) {i n : Nat} (hi : i < l.length) (hn : n < l.length) (e : l.getD i 0 = l.getD n 0) : i = n := by
  rw [List.getD_eq_getElem?_getD, List.getD_eq_getElem?_getD, List.getElem?_eq_getElem hi, List.getElem?_eq_getElem hn] at e
  exact (List.getElem_inj h).mp e
theorem DayI.pay {n : Nat} {v : Int} (h : DayI C M j j1 j2 r ix c ds rs) (hn : n < ds.length) (v1 : 1 ≤ v) (v2 : v ≤ rs.getD n 0) : DayI C (payM M j2 ix ds rs n v) j j1 j2 r ix c ds (rs.set n (rs.getD n 0 - v)) := by
  obtain ⟨a1, a2, a3, b1, b2, c1, a4, b3, c2, d1, e1⟩ := h.ne
  have lt := h.lt
  have D := h.D
  have len := D.len
  have rl := h.R.len
  have hm := getD_memN (l := ix) (n := n) (by omega)
  have nn : ∀ x, x ∉ ix → x ≠ ix.getD n 0 := fun x hx e => hx (e ▸ hm)
  have l3 : j2 < M.length := lt j2 (by simp)
  have l5 : ix.getD n 0 < M.length := lt _ (List.mem_append_right _ hm)
  refine ⟨⟨?_, ?_, ?_, by rw [List.length_set]; exact len, D.lim, D.c0, D.cl, D.ok, fun m hm => ?_⟩, ⟨?_, rl, fun m hm' => ?_⟩, h.nd⟩
  · rw [payM_at a2 (nn j a4)]
    exact D.d
  · rw [payM_at b1 (nn j1 b3)]
    exact D.c1
  · unfold payM
    rw [get_ne (nn j2 c2).symm]
    exact get_set l3
  · rw [getD_setI (by omega)]
    have := D.lo m hm
    have := D.lo n hn
    split <;> omega
  · rw [payM_at c1.symm (nn r d1)]
    exact h.R.r
  · have hmm := getD_memN (l := ix) (n := m) (by omega)
    rw [getD_setI (by omega)]
    by_cases e : n = m
    · subst e
      rw [if_pos rfl]
      unfold payM
      exact get_set (by rw [List.length_set]; exact l5)
    · rw [if_neg e, payM_at (fun z : ix.getD m 0 = j2 => c2 (z ▸ hmm)) (fun z : ix.getD m 0 = ix.getD n 0 => e (nd_getD e1 (by omega) (by omega) z.symm))]
      exact h.R.it m hm'
end
/-! ### a debt comes -/
def owAm (x : Int) : Int := if decide (x / 540 % 3 = 1) = true then 1 + x / 1620 % 1000000000 else 1 + x / 180 % 3
def ow (c : Nat) (x : Int) : Dt := ⟨(x / 6 % (c : Int)).toNat, ((x / 6 % (c : Int) + 1 + x / 36 % ((c : Int) - 1)) % (c : Int)).toNat, owAm x⟩
theorem ow_ok {c : Nat} {x : Int} (hc : 2 ≤ c) : DtOk c (ow c x) := by
  have a0 := Int.emod_nonneg (x / 6) (show (c : Int) ≠ 0 by omega)
  have a1 := Int.emod_lt_of_pos (x / 6) (show (0 : Int) < c by omega)
  have r0 := Int.emod_nonneg (x / 36) (show (c : Int) - 1 ≠ 0 by omega)
  have r1 := Int.emod_lt_of_pos (x / 36) (show (0 : Int) < (c : Int) - 1 by omega)
  have b0 := Int.emod_nonneg (x / 6 % (c : Int) + 1 + x / 36 % ((c : Int) - 1)) (show (c : Int) ≠ 0 by omega)
  have b1 := Int.emod_lt_of_pos (x / 6 % (c : Int) + 1 + x / 36 % ((c : Int) - 1)) (show (0 : Int) < c by omega)
  have ne := shift_ne a0 a1 (t := 1 + x / 36 % ((c : Int) - 1)) (by omega) (by omega)
  rw [← Int.add_assoc] at ne
  refine ⟨?_, ?_, ?_, ?_, ?_⟩
  · show (_ : Int).toNat < c
    omega
  · show (_ : Int).toNat < c
    omega
  · show (_ : Int).toNat ≠ (_ : Int).toNat
    omega
  · show 1 ≤ owAm x
    unfold owAm
    split <;> omega
  · show owAm x ≤ 1000000000
    unfold owAm
    split <;> omega
def odd16 (d : Dt) (c : Nat) (f : Int) : List PyData :=
  [.tuple [.int d.a, .int d.a, .int d.m], .tuple [.int (-1 - f), .int d.b, .int d.m], .tuple [.int d.a, .int ((c : Int) + f), .int d.m]] ++
  [.tuple [.int d.a, .int d.b, .int 0], .tuple [.int d.a, .int d.b, .int (1000000001 + f)], .tuple [.int d.a, .bool true, .int d.m]] ++
  [.tuple [.int d.a, .int d.b, .none], .tuple [.str "0", .int 1, .int 1], .tuple [.bool false, .int d.b, .int d.m]] ++
  [.tuple [.int d.a, .int (-1 - f), .int d.m], .tuple [.int ((c : Int) + f), .int d.b, .int d.m], .tuple [.int d.a, .int d.b, .bool true]] ++
  [.tuple [.int d.a, .int d.b, .str "1"], .tuple [.int d.a, .none, .int d.m], .tuple [.int d.a, .int d.b, .int (-1 - f)], .tuple [.bool true, .int 0, .int d.m]]
theorem odd16_no {d : Dt} {c : Nat} {f : Int} (hf : 0 ≤ f) : ∀ e ∈ odd16 d c f, ∃ p q r, e = .tuple [p, q, r] ∧ isDebt c (.tuple [p, q, r]) = false := by
  intro e he
  have lo : ∀ {hi i : Int}, i < 0 → wh 0 hi (.int i) = false := fun h => by
    rw [whI]
    exact dec_f (by omega)
  have up : ∀ {i : Int}, (c : Int) ≤ i → wh 0 ((c : Int) - 1) (.int i) = false := fun h => by
    rw [whI]
    exact dec_f (by omega)
  have am : ∀ {i : Int}, i < 1 ∨ 1000000000 < i → wh 1 1000000000 (.int i) = false := fun h => by
    rw [whI]
    exact dec_f (by omega)
  unfold odd16 at he
  simp only [List.cons_append, List.nil_append, List.mem_cons, List.not_mem_nil, or_false] at he
  rcases he with rfl | rfl | rfl | rfl | rfl | rfl | rfl | rfl | rfl | rfl | rfl | rfl | rfl | rfl | rfl | rfl
  · refine ⟨_, _, _, rfl, ?_⟩
    rw [isD3]
    show (_ && (!decide ((d.a : Int) = d.a) && _)) = false
    rw [decide_eq_true rfl]
    simp
  · exact ⟨_, _, _, rfl, by rw [isD3, lo (by omega)] <;> rfl⟩
  · exact ⟨_, _, _, rfl, by rw [isD3, up (i := (c : Int) + f) (by omega), Bool.and_false] <;> rfl⟩
  · exact ⟨_, _, _, rfl, by rw [isD3, am (i := 0) (by omega), Bool.and_false, Bool.and_false]⟩
  · exact ⟨_, _, _, rfl, by rw [isD3, am (i := 1000000001 + f) (by omega), Bool.and_false, Bool.and_false]⟩
  · exact ⟨_, _, _, rfl, by rw [isD3, show wh 0 ((c : Int) - 1) (.bool true) = false from rfl, Bool.and_false] <;> rfl⟩
  · exact ⟨_, _, _, rfl, by rw [isD3, show wh 1 1000000000 .none = false from rfl, Bool.and_false, Bool.and_false]⟩
  · exact ⟨_, _, _, rfl, by rw [isD3, show wh 0 ((c : Int) - 1) (.str "0") = false from rfl] <;> rfl⟩
  · exact ⟨_, _, _, rfl, by rw [isD3, show wh 0 ((c : Int) - 1) (.bool false) = false from rfl] <;> rfl⟩
  · exact ⟨_, _, _, rfl, by rw [isD3, lo (i := -1 - f) (by omega), Bool.and_false] <;> rfl⟩
  · exact ⟨_, _, _, rfl, by rw [isD3, up (i := (c : Int) + f) (by omega)] <;> rfl⟩
  · exact ⟨_, _, _, rfl, by rw [isD3, show wh 1 1000000000 (.bool true) = false from rfl, Bool.and_false, Bool.and_false]⟩
  · exact ⟨_, _, _, rfl, by rw [isD3, show wh 1 1000000000 (.str "1") = false from rfl, Bool.and_false, Bool.and_false]⟩
  · exact ⟨_, _, _, rfl, by rw [isD3, show wh 0 ((c : Int) - 1) .none = false from rfl, Bool.and_false] <;> rfl⟩
  · exact ⟨_, _, _, rfl, by rw [isD3, am (i := -1 - f) (by omega), Bool.and_false, Bool.and_false]⟩
  · exact ⟨_, _, _, rfl, by rw [isD3, show wh 0 ((c : Int) - 1) (.bool true) = false from rfl] <;> rfl⟩
section
variable {K : PySem.W.Frag} {E : XK} {M M1 M2 : List Cell} {s : List Sl} {ws : List W} {o : Res} {X : Xs} {ta tb te : TE}
def T_qowed (X : Xs) (M : List Cell) (ws : List W) (o : Res) : Prop := ∃ (j j1 j2 r c : Nat) (ix : List Nat) (ds : List Dt) (rs : List Int) (x : Int), ws = [.cel j, .cel r, di c, di x] ∧ DayI X.Day M j j1 j2 r ix c ds rs ∧ 2 ≤ c ∧ ds.length < 500 ∧
  o = .ret (db true) (if x % 6 = 5 then M else oweM M j1 j2 r ix ds rs (ow c x))
def o_qowed (K : PySem.W.Frag) : TS := (tSeq (tAsg (tOp xMod (tOp xDiv (tVar 3) (tC (.int 3240))) (tC (.int 1000003))) (gName 8))
    (tSeq (tAsg (tLst (tCons (tTup (tCons (tVar 4) (tCons (tVar 4) (tCons (tVar 6) tNil)))) (tCons (tTup (tCons (tOp xSub (tUn xNeg (tC (.int 1))) (tVar 8)) (tCons (tVar 5) (tCons (tVar 6) tNil)))) (tCons (tTup (tCons (tVar 4) (tCons (tOp xAdd (tVar 2) (tVar 8)) (tCons (tVar 6) tNil)))) tNil)))) (gName 9))
    (tSeq (tAsg (tOp rCat (tVar 9) (tLst (tCons (tTup (tCons (tVar 4) (tCons (tVar 5) (tCons (tC (.int 0)) tNil)))) (tCons (tTup (tCons (tVar 4) (tCons (tVar 5) (tCons (tOp xAdd (tC (.int 1000000001)) (tVar 8)) tNil)))) (tCons (tTup (tCons (tVar 4) (tCons (tC (.bl true)) (tCons (tVar 6) tNil)))) tNil))))) (gName 9))
    (tSeq (tAsg (tOp rCat (tVar 9) (tLst (tCons (tTup (tCons (tVar 4) (tCons (tVar 5) (tCons (tC .non) tNil)))) (tCons (tTup (tCons (tC (.str "0")) (tCons (tC (.int 1)) (tCons (tC (.int 1)) tNil)))) (tCons (tTup (tCons (tC (.bl false)) (tCons (tVar 5) (tCons (tVar 6) tNil)))) tNil))))) (gName 9))
    (tSeq (tAsg (tOp rCat (tVar 9) (tLst (tCons (tTup (tCons (tVar 4) (tCons (tOp xSub (tUn xNeg (tC (.int 1))) (tVar 8)) (tCons (tVar 6) tNil)))) (tCons (tTup (tCons (tOp xAdd (tVar 2) (tVar 8)) (tCons (tVar 5) (tCons (tVar 6) tNil)))) (tCons (tTup (tCons (tVar 4) (tCons (tVar 5) (tCons (tC (.bl true)) tNil)))) tNil))))) (gName 9))
    (tSeq (tAsg (tOp rCat (tVar 9) (tLst (tCons (tTup (tCons (tVar 4) (tCons (tVar 5) (tCons (tC (.str "1")) tNil)))) (tCons (tTup (tCons (tVar 4) (tCons (tC .non) (tCons (tVar 6) tNil)))) (tCons (tTup (tCons (tVar 4) (tCons (tVar 5) (tCons (tOp xSub (tUn xNeg (tC (.int 1))) (tVar 8)) tNil)))) (tCons (tTup (tCons (tC (.bl true)) (tCons (tC (.int 0)) (tCons (tVar 6) tNil)))) tNil)))))) (gName 9))
    (tSeq (tAsg (tOp (rIx K) (tVar 9) (tOp xMod (tOp xDiv (tVar 3) (tC (.int 540))) (tC (.int 16)))) (gTup K 3 (gCons (gName 4) (gCons (gName 5) (gCons (gName 6) gNil)))))
    (tAsg (tC (.str "debt")) (gName 7)))))))))
def e_qowed (K : PySem.W.Frag) (X : Xs) : TS := (tSeq (tTry K X.DebtError 11 (fun a cls d => (tRet (tOp rEq (tCall (spS K (T_qkind K X) a cls d) [] E0 (tCons (tVar 11) tNil)) (tVar 7)))) (fun W => (tAsg (tMethS X.Day "owe" (spOf K (T_Day_owe X)) (WE W) (tVar 0) (tCons (tVar 4) (tCons (tVar 5) (tCons (tVar 6) tNil)))) (gName 10))))
    (tSeq (tDrop (tBM K "list" rAppend (tVar 1) (tCons (tLst (tCons (tVar 4) (tCons (tVar 5) (tCons (tVar 6) tNil)))) tNil)))
    (tRet (tAndV (tCall (spOf K T_qwhole) [] E0 (tCons (tVar 10) tNil)) (tOp rEq (tVar 10) (tVar 7))))))
def t_qowed (K : PySem.W.Frag) (X : Xs) : TS := (tSeq (tAsg (tOp xMod (tOp xDiv (tVar 3) (tC (.int 6))) (tVar 2)) (gName 4))
    (tSeq (tAsg (tOp xMod (tOp xAdd (tOp xAdd (tVar 4) (tC (.int 1))) (tOp xMod (tOp xDiv (tVar 3) (tC (.int 36))) (tOp xSub (tVar 2) (tC (.int 1))))) (tVar 2)) (gName 5))
    (tSeq (tAsg (tOp xAdd (tC (.int 1)) (tOp xMod (tOp xDiv (tVar 3) (tC (.int 180))) (tC (.int 3)))) (gName 6))
    (tSeq (tIfS (tTest (tOp rEq (tOp xMod (tOp xDiv (tVar 3) (tC (.int 540))) (tC (.int 3))) (tC (.int 1)))) (tAsg (tOp xAdd (tC (.int 1)) (tOp xMod (tOp xDiv (tVar 3) (tC (.int 1620))) (tC (.int 1000000000)))) (gName 6)) tNext)
    (tSeq (tAsg (tCB (rLenX K) (tCons (tVar 1) tNil)) (gName 7))
    (tSeq (tIfS (tTest (tOp rEq (tOp xMod (tVar 3) (tC (.int 6))) (tC (.int 5)))) (o_qowed K) tNext)
    (e_qowed K X)))))))
theorem odd_run {d : Dt} {c j r : Nat} {x : Int} {s7 : Sl} : ∃ p q u, isDebt c (.tuple [p, q, u]) = false ∧ ∃ f l, Big K E (o_qowed K) [some (.cel j), some (.cel r), some (di c), some (di x), some (natW d.a), some (natW d.b), some (di d.m), s7, none, none, none, none] M
    (.nx [some (.cel j), some (.cel r), some (di c), some (di x), some (.dat p), some (.dat q), some (.dat u), some (ds_ "debt"), some (di f), some (dl l), none, none] M) := by
  have h0 := Int.emod_nonneg (x / 540) (show (16 : Int) ≠ 0 by omega)
  have h1 := Int.emod_lt_of_pos (x / 540) (show (0 : Int) < 16 by omega)
  have hf := Int.emod_nonneg (x / 3240) (show (1000003 : Int) ≠ 0 by omega)
  obtain ⟨p, q, u, e1, e2⟩ := odd16_no (d := d) (c := c) hf _ (getD_memP (l := odd16 d c (x / 3240 % 1000003)) (i := (x / 540 % 16).toNat) (by show _ < 16; omega))
  have t3 : ∀ {s : List Sl} {a b e : TE} {x y z : PyData}, Ev K a s M (.dat x) M → Ev K b s M (.dat y) M → Ev K e s M (.dat z) M → Ev K (tTup (tCons a (tCons b (tCons e tNil)))) s M (.dat (.tuple [x, y, z])) M := fun h1 h2 h3 => .tup (ed_cons h1 (ed_cons h2 (ed_cons h3 ea_nil))) (Nat.le_of_ble_eq_true rfl)
  refine ⟨p, q, u, e2, x / 3240 % 1000003, odd16 d c (x / 3240 % 1000003), .st (.mod (.div (.var rfl) .int (by decide)) .int (by decide)) (.st (.lst (ed_cons (t3 (.var rfl) (.var rfl) (.var rfl)) (ed_cons (t3 (.sub (.neg .int) (.var rfl)) (.var rfl) (.var rfl)) (ed_cons (t3 (.var rfl) (.add (.var rfl) (.var rfl)) (.var rfl)) ea_nil))) (Nat.le_of_ble_eq_true rfl))
    (.st (.cat (.var rfl) (.lst (ed_cons (t3 (.var rfl) (.var rfl) .int) (ed_cons (t3 (.var rfl) (.var rfl) (.add .int (.var rfl))) (ed_cons (t3 (.var rfl) .bl (.var rfl)) ea_nil))) (Nat.le_of_ble_eq_true rfl)) (Nat.le_of_ble_eq_true rfl))
    (.st (.cat (.var rfl) (.lst (ed_cons (t3 (.var rfl) (.var rfl) .non) (ed_cons (t3 .str .int .int) (ed_cons (t3 .bl (.var rfl) (.var rfl)) ea_nil))) (Nat.le_of_ble_eq_true rfl)) (Nat.le_of_ble_eq_true rfl))
    (.st (.cat (.var rfl) (.lst (ed_cons (t3 (.var rfl) (.sub (.neg .int) (.var rfl)) (.var rfl)) (ed_cons (t3 (.add (.var rfl) (.var rfl)) (.var rfl) (.var rfl)) (ed_cons (t3 (.var rfl) (.var rfl) .bl) ea_nil))) (Nat.le_of_ble_eq_true rfl)) (Nat.le_of_ble_eq_true rfl))
    (.st (.cat (.var rfl) (.lst (ed_cons (t3 (.var rfl) (.var rfl) .str) (ed_cons (t3 (.var rfl) .non (.var rfl)) (ed_cons (t3 (.var rfl) (.var rfl) (.sub (.neg .int) (.var rfl))) (ed_cons (t3 .bl .int (.var rfl)) ea_nil)))) (Nat.le_of_ble_eq_true rfl)) (Nat.le_of_ble_eq_true rfl))
    (.seq (.unpack3 (x := p) (y := q) (z := u) (.is (pick_ev (l := odd16 d c (x / 3240 % 1000003)) (i := x / 540 % 16) (.var rfl) (.mod (.div (.var rfl) .int (by decide)) .int (by decide)) h0 (by show _ < (16 : Int); omega)) (by rw [e1]))) (.asg .str)))))))⟩
theorem big_qowed (k : KitOk K X X.BadDebt 1) (h : T_qowed X M ws o) : BigF K E (t_qowed K X) (args 12 ws) M o := by
  obtain ⟨j, j1, j2, r, c, ix, ds, rs, x, rfl, I, h2, hl, rfl⟩ := h
  have ok := ow_ok (x := x) h2
  obtain ⟨a1, a2, a3, b1, b2, c1, a4, b3, c2, d1, e1⟩ := I.ne
  have hc := I.D.cl
  have z0 := Int.emod_nonneg (x / 6) (show (c : Int) ≠ 0 by omega)
  have z1 := Int.emod_nonneg (x / 6 % (c : Int) + 1 + x / 36 % ((c : Int) - 1)) (show (c : Int) ≠ 0 by omega)
  have pre : ∀ {o : Out}, Big K E (tSeq (tIfS (tTest (tOp rEq (tOp xMod (tVar 3) (tC (.int 6))) (tC (.int 5)))) (o_qowed K) tNext) (e_qowed K X)) [some (.cel j), some (.cel r), some (di c), some (di x), some (natW (ow c x).a), some (natW (ow c x).b), some (di (ow c x).m), some (di (ds.length : Int)), none, none, none, none] M o → Big K E (t_qowed K X) (args 12 [.cel j, .cel r, di c, di x]) M o := fun q => by
    refine .st (w := natW (ow c x).a) (.is (.mod (.div (.var rfl) .int (by decide)) (.var rfl) (by omega)) ?_) (.st (w := natW (ow c x).b) (.is (.mod (.add (.add (.is (w := natW (ow c x).a) (.var rfl) rfl) .int) (.mod (.div (.var rfl) .int (by decide)) (.sub (.var rfl) .int) (by omega))) (.var rfl) (by omega)) ?_) (.st (w := di (1 + x / 180 % 3)) (.add .int (.mod (.div (.var rfl) .int (by decide)) .int (by decide))) (.stIf (b := decide (x / 540 % 3 = 1)) (w1 := di (1 + x / 1620 % 1000000000)) (w := di (ow c x).m) (.test (.eq (.mod (.div (.var rfl) .int (by decide)) .int (by decide)) .int (.int _ _))) (fun _ => .add .int (.mod (.div (.var rfl) .int (by decide)) .int (by decide))) rfl ?_ (.st (rows_len I.R (.var rfl)) q))))
    · show di _ = di ((x / 6 % (c : Int)).toNat : Int)
      rw [Int.toNat_of_nonneg z0]
    · show di ((((x / 6 % (c : Int)).toNat : Int) + 1 + x / 36 % ((c : Int) - 1)) % (c : Int)) = di (((x / 6 % (c : Int) + 1 + x / 36 % ((c : Int) - 1)) % (c : Int)).toNat : Int)
      rw [Int.toNat_of_nonneg z0, Int.toNat_of_nonneg z1]
    · show di (owAm x) = _
      unfold owAm
      split <;> rfl
  have tst : EvB K (tTest (tOp rEq (tOp xMod (tVar 3) (tC (.int 6))) (tC (.int 5)))) [some (.cel j), some (.cel r), some (di c), some (di x), some (natW (ow c x).a), some (natW (ow c x).b), some (di (ow c x).m), some (di (ds.length : Int)), none, none, none, none] M (decide (x % 6 = 5)) M := .test (.eq (.mod (.var rfl) .int (by decide)) .int (.int _ _))
  by_cases q : x % 6 = 5
  · rw [if_pos q]
    obtain ⟨p, q2, u, e2, f, l, run⟩ := odd_run (K := K) (E := E) (M := M) (d := ow c x) (c := c) (j := j) (r := r) (x := x) (s7 := some (di (ds.length : Int)))
    exact .rt (pre (.seqIte tst (fun _ => .seq run (.seqR (.tryAM_er (o := .rt (db true) M) (ws := [.dat p, .dat q2, .dat u]) (.var rfl) I.D.d rfl (ea_cons (.var rfl) (ea_cons (.var rfl) (ea_cons (.var rfl) ea_nil))) ⟨j, j1, j2, c, ds, rs, p, q2, u, rfl, I.D, b1, a1, hl, .inr ⟨e2, rfl⟩⟩ k.d fun a => .ret (kind_eq (w := "debt") (by decide) k rfl rfl (.var rfl))))) fun z => absurd q (of_decide_eq_false z)))
  · rw [if_neg q]
    have lr : r < M.length := I.lt r (by simp)
    have r1 : ((M.set j1 (.lst ((encDs (ds ++ [ow c x])).map .dat))).set j2 (.lst ((rs ++ [(ow c x).m]).map di)))[r]? = some (.lst (ix.map W.cel)) := by
      rw [get_ne c1, get_ne b2]
      exact I.R.r
    have len2 : ((M.set j1 (.lst ((encDs (ds ++ [ow c x])).map .dat))).set j2 (.lst ((rs ++ [(ow c x).m]).map di))).length = M.length := by rw [List.length_set, List.length_set]
    refine .rt (pre (.seqIte tst (fun z => absurd (of_decide_eq_true z) q) fun _ => .seqN (.seq (.tryAM_ok (ws := [natW (ow c x).a, natW (ow c x).b, di (ow c x).m]) (.var rfl) I.D.d rfl (ea_cons (.var rfl) (ea_cons (.var rfl) (ea_cons (.var rfl) ea_nil))) ⟨j, j1, j2, c, ds, rs, _, _, _, rfl, I.D, b1, a1, hl, .inl ⟨ow c x, ok, rfl, rfl⟩⟩) (.seq (s1 := [some (.cel j), some (.cel r), some (di c), some (di x), some (natW (ow c x).a), some (natW (ow c x).b), some (di (ow c x).m), some (di (ds.length : Int)), none, none, some (di (ds.length : Int)), none]) (M1 := oweM M j1 j2 r ix ds rs (ow c x)) (.is (.append (a := r) (.var rfl) (.lstC (ea_cons (.var rfl) (ea_cons (.var rfl) (ea_cons (.var rfl) ea_nil))) (Nat.le_of_ble_eq_true rfl)) ⟨_, r1⟩ (ws := ix.map W.cel) ?_ ?_) ?_) (.ret (.is (w := db (true && true)) (.and (.call (w := db true) (ea_cons (.var rfl) ea_nil) ⟨_, rfl, rfl⟩) fun _ => .is (.eq (.var rfl) (.var rfl) (.int _ _)) (by rw [decide_eq_true rfl])) rfl))))))
    · rw [List.getElem?_append_left (by rw [len2]; exact lr)]
      exact r1
    · rw [List.length_map, I.R.len]
      omega
    · rw [len2]
      unfold oweM
      rw [show (ix ++ [M.length]).map W.cel = ix.map W.cel ++ [W.cel M.length] from by rw [List.map_append] <;> rfl] <;> rfl
end
end Bk

set_option Elab.async false
set_option linter.all false
set_option maxRecDepth 100000
set_option maxHeartbeats 4000000
/-! P10: the law k10: something is paid -/
namespace Bk
open PySem L2 Vx HotP
def pnL (L : Nat) (x : Int) : List PyData := [.int L, .int (-1), .bool true, .none, .str "0", .bool false, .int ((L : Int) + 1 + x / 49 % 999)]
def pn (L : Nat) (x : Int) : PyData := if (decide (0 < x % 7) && decide (0 < (L : Int))) = true then .int (x / 7 % (L : Int)) else (pnL L x).getD (x / 7 % 7).toNat .none
def paL (m x : Int) : List PyData := [.int (1 + x / 420 % 3), .int m, .int (m + 1), .int 0, .bool true, .str "1", .int (-1), .int (10 ^ (30 : Int).toNat + m)]
def pa (m x : Int) : PyData := (paL m x).getD (x / 49 % 8).toNat .none
theorem pnL_no {L : Nat} {x : Int} : ∀ e ∈ pnL L x, wh 0 ((L : Int) - 1) e = false := by
  intro e he
  have h0 := Int.emod_nonneg (x / 49) (show (999 : Int) ≠ 0 by omega)
  unfold pnL at he
  simp only [List.mem_cons, List.not_mem_nil, or_false] at he
  rcases he with rfl | rfl | rfl | rfl | rfl | rfl | rfl
  · rw [whI]
    exact dec_f (by omega)
  · rw [whI]
    exact dec_f (by omega)
  · rfl
  · rfl
  · rfl
  · rfl
  · rw [whI]
    exact dec_f (by omega)
/-- a number that there is, or none -/
theorem pn_or {L : Nat} {x : Int} : (∃ n : Nat, n < L ∧ pn L x = .int (n : Int) ∧ wh 0 ((L : Int) - 1) (pn L x) = true) ∨ wh 0 ((L : Int) - 1) (pn L x) = false := by
  unfold pn
  split
  · next h =>
    have hL : (0 : Int) < L := of_decide_eq_true (Bool.and_eq_true_iff.mp h).2
    have z0 := Int.emod_nonneg (x / 7) (show (L : Int) ≠ 0 by omega)
    have z1 := Int.emod_lt_of_pos (x / 7) hL
    refine .inl ⟨(x / 7 % (L : Int)).toNat, by omega, by rw [Int.toNat_of_nonneg z0], ?_⟩
    show (decide (0 ≤ x / 7 % (L : Int)) && decide (x / 7 % (L : Int) ≤ (L : Int) - 1)) = true
    rw [decide_eq_true z0, decide_eq_true (by omega)] <;> rfl
  · have h0 := Int.emod_nonneg (x / 7) (show (7 : Int) ≠ 0 by omega)
    have h1 := Int.emod_lt_of_pos (x / 7) (show (0 : Int) < 7 by omega)
    exact .inr (pnL_no _ (getD_memP (by show _ < 7; omega)))
section
variable {K : PySem.W.Frag} {E : XK} {M M1 M2 : List Cell} {s : List Sl} {ws : List W} {o : Res} {X : Xs} {ta tb te : TE}
theorem in_lt {L : Nat} {d : PyData} {te1 : TE} (h : Ev K ta s M (.dat d) M) (hl : Ev K te1 s M (di (L : Int)) M) : EvB K (tAnd (tB (tCall (spOf K T_qwhole) [] E0 (tCons ta tNil))) (tTest (tChain xLe xLt (tC (.int 0)) ta te1))) s M (wh 0 ((L : Int) - 1) d) M := by
  by_cases q : isInt d = true
  · obtain ⟨v, rfl⟩ : ∃ v, d = .int v := by
      cases d <;> first | exact ⟨_, rfl⟩ | cases q
    refine .is (.and (b := true) (c := decide (0 ≤ v) && decide (v < (L : Int))) (.val (.call (w := db true) (ea_cons h ea_nil) ⟨.int v, rfl, rfl⟩)) fun _ => .test (.chain (f := fun a b => decide (a ≤ b)) (g := fun a b => decide (a < b)) .int h fun _ => hl)) ?_
    show (decide (0 ≤ v) && decide (v < (L : Int))) = (decide (0 ≤ v) && decide (v ≤ (L : Int) - 1))
    rw [show decide (v < (L : Int)) = decide (v ≤ (L : Int) - 1) from decide_eq_decide.mpr ⟨fun z => by omega, fun z => by omega⟩]
  · have e : isInt d = false := Bool.eq_false_iff.mpr q
    have e2 : wh 0 ((L : Int) - 1) d = false := by
      cases d <;> first | rfl | exact absurd rfl q
    rw [e2]
    exact .is (.and (b := false) (c := false) (.val (.is (.call (w := db (isInt d)) (ea_cons h ea_nil) ⟨d, rfl, rfl⟩) (by rw [e]))) fun z => by cases z) rfl
theorem out_lt {L : Nat} {d : PyData} {te1 : TE} (h : Ev K ta s M (.dat d) M) (hl : Ev K te1 s M (di (L : Int)) M) : EvB K (tOr (tNot (tB (tCall (spOf K T_qwhole) [] E0 (tCons ta tNil)))) (tNot (tTest (tChain xLe xLt (tC (.int 0)) ta te1)))) s M (!wh 0 ((L : Int) - 1) d) M := by
  by_cases q : isInt d = true
  · obtain ⟨v, rfl⟩ : ∃ v, d = .int v := by
      cases d <;> first | exact ⟨_, rfl⟩ | cases q
    refine .is (.or (b := !true) (c := !(decide (0 ≤ v) && decide (v < (L : Int)))) (.not (.val (.call (w := db true) (ea_cons h ea_nil) ⟨.int v, rfl, rfl⟩))) fun _ => .not (.test (.chain (f := fun a b => decide (a ≤ b)) (g := fun a b => decide (a < b)) .int h fun _ => hl))) ?_
    show (!(decide (0 ≤ v) && decide (v < (L : Int)))) = !(decide (0 ≤ v) && decide (v ≤ (L : Int) - 1))
    rw [show decide (v < (L : Int)) = decide (v ≤ (L : Int) - 1) from decide_eq_decide.mpr ⟨fun z => by omega, fun z => by omega⟩]
  · have e : isInt d = false := Bool.eq_false_iff.mpr q
    have e2 : wh 0 ((L : Int) - 1) d = false := by
      cases d <;> first | rfl | exact absurd rfl q
    rw [e2]
    exact .is (.or (b := !false) (c := false) (.not (.val (.is (.call (w := db (isInt d)) (ea_cons h ea_nil) ⟨d, rfl, rfl⟩) (by rw [e])))) fun z => by cases z) rfl
theorem out_le {m : Int} {d : PyData} {te1 : TE} (h : Ev K ta s M (.dat d) M) (hl : Ev K te1 s M (di m) M) : EvB K (tOr (tNot (tB (tCall (spOf K T_qwhole) [] E0 (tCons ta tNil)))) (tNot (tTest (tChain xLe xLe (tC (.int 1)) ta te1)))) s M (!wh 1 m d) M := by
  by_cases q : isInt d = true
  · obtain ⟨v, rfl⟩ : ∃ v, d = .int v := by
      cases d <;> first | exact ⟨_, rfl⟩ | cases q
    exact .is (.or (b := !true) (c := !(decide (1 ≤ v) && decide (v ≤ m))) (.not (.val (.call (w := db true) (ea_cons h ea_nil) ⟨.int v, rfl, rfl⟩))) fun _ => .not (.test (.chain (f := fun a b => decide (a ≤ b)) (g := fun a b => decide (a ≤ b)) .int h fun _ => hl))) rfl
  · have e : isInt d = false := Bool.eq_false_iff.mpr q
    have e2 : wh 1 m d = false := by
      cases d <;> first | rfl | exact absurd rfl q
    rw [e2]
    exact .is (.or (b := !false) (c := false) (.not (.val (.is (.call (w := db (isInt d)) (ea_cons h ea_nil) ⟨d, rfl, rfl⟩) (by rw [e])))) fun z => by cases z) rfl
def T_qpaid (X : Xs) (M : List Cell) (ws : List W) (o : Res) : Prop := ∃ (j j1 j2 r c : Nat) (ix : List Nat) (ds : List Dt) (rs : List Int) (x : Int), ws = [.cel j, .cel r, di x] ∧ DayI X.Day M j j1 j2 r ix c ds rs ∧
  ((∃ (n : Nat) (v : Int), n < ds.length ∧ 1 ≤ v ∧ v ≤ rs.getD n 0 ∧ pn ds.length x = .int (n : Int) ∧ pa (rs.getD n 0) x = .int v ∧ o = .ret (db true) (payM M j2 ix ds rs n v)) ∨
   ((wh 0 ((ds.length : Int) - 1) (pn ds.length x) = false ∨ ∃ n : Nat, n < ds.length ∧ pn ds.length x = .int (n : Int) ∧ wh 1 (rs.getD n 0) (pa (rs.getD n 0) x) = false) ∧ o = .ret (db true) M))
def c_qpaid (K : PySem.W.Frag) : TS := (tIfS (tOr (tNot (tB (tCall (spOf K T_qwhole) [] E0 (tCons (tVar 3) tNil)))) (tNot (tTest (tChain xLe xLt (tC (.int 0)) (tVar 3) (tCB (rLenX K) (tCons (tVar 1) tNil)))))) (tAsg (tC (.str "number")) (gName 6)) (tIfS (tOr (tNot (tB (tCall (spOf K T_qwhole) [] E0 (tCons (tVar 5) tNil)))) (tNot (tTest (tChain xLe xLe (tC (.int 1)) (tVar 5) (tVar 4))))) (tAsg (tC (.str "amount")) (gName 6)) tNext))
def e_qpaid (K : PySem.W.Frag) (X : Xs) : TS := (tSeq (tTry K X.DebtError 8 (fun a cls d => (tRet (tOp rEq (tCall (spS K (T_qkind K X) a cls d) [] E0 (tCons (tVar 8) tNil)) (tVar 6)))) (fun W => (tAsg (tMethS X.Day "pay" (spOf K (T_Day_pay X)) (WE W) (tVar 0) (tCons (tVar 3) (tCons (tVar 5) tNil))) (gName 7))))
    (tSeq (tIfS (tTest (tOp rNe (tVar 6) (tC (.str "")))) (tRet (tC (.bl false))) tNext)
    (tSeq (tAsg (tOp xSub (tVar 4) (tVar 5)) (gSub (tOp (rIx K) (tVar 1) (tVar 3)) (tC (.int 2)) rSetL))
    (tRet (tAndV (tCall (spOf K T_qwhole) [] E0 (tCons (tVar 7) tNil)) (tOp rEq (tVar 7) (tOp xSub (tVar 4) (tVar 5))))))))
def t_qpaid (K : PySem.W.Frag) (X : Xs) : TS := (tSeq (tAsg (tOp (rIx K) (tLst (tCons (tCB (rLenX K) (tCons (tVar 1) tNil)) (tCons (tUn xNeg (tC (.int 1))) (tCons (tC (.bl true)) (tCons (tC .non) (tCons (tC (.str "0")) (tCons (tC (.bl false)) (tCons (tOp xAdd (tOp xAdd (tCB (rLenX K) (tCons (tVar 1) tNil)) (tC (.int 1))) (tOp xMod (tOp xDiv (tVar 2) (tC (.int 49))) (tC (.int 999)))) tNil)))))))) (tOp xMod (tOp xDiv (tVar 2) (tC (.int 7))) (tC (.int 7)))) (gName 3))
    (tSeq (tIfS (tAnd (tTest (tOp xGt (tOp xMod (tVar 2) (tC (.int 7))) (tC (.int 0)))) (tTest (tOp xGt (tCB (rLenX K) (tCons (tVar 1) tNil)) (tC (.int 0))))) (tAsg (tOp xMod (tOp xDiv (tVar 2) (tC (.int 7))) (tCB (rLenX K) (tCons (tVar 1) tNil))) (gName 3)) tNext)
    (tSeq (tAsg (tC (.int 0)) (gName 4))
    (tSeq (tIfS (tAnd (tB (tCall (spOf K T_qwhole) [] E0 (tCons (tVar 3) tNil))) (tTest (tChain xLe xLt (tC (.int 0)) (tVar 3) (tCB (rLenX K) (tCons (tVar 1) tNil))))) (tAsg (tOp (rIx K) (tOp (rIx K) (tVar 1) (tVar 3)) (tC (.int 2))) (gName 4)) tNext)
    (tSeq (tAsg (tOp (rIx K) (tLst (tCons (tOp xAdd (tC (.int 1)) (tOp xMod (tOp xDiv (tVar 2) (tC (.int 420))) (tC (.int 3)))) (tCons (tVar 4) (tCons (tOp xAdd (tVar 4) (tC (.int 1))) (tCons (tC (.int 0)) (tCons (tC (.bl true)) (tCons (tC (.str "1")) (tCons (tUn xNeg (tC (.int 1))) (tCons (tOp xAdd (tOp xPow (tC (.int 10)) (tC (.int 30))) (tVar 4)) tNil))))))))) (tOp xMod (tOp xDiv (tVar 2) (tC (.int 49))) (tC (.int 8)))) (gName 5))
    (tSeq (tAsg (tC (.str "")) (gName 6))
    (tSeq (c_qpaid K)
    (e_qpaid K X))))))))
theorem pa_ev {s : List Sl} {m x : Int} (h4 : s[4]? = some (some (di m))) (h2 : s[2]? = some (some (di x))) : Ev K (tOp (rIx K) (tLst (tCons (tOp xAdd (tC (.int 1)) (tOp xMod (tOp xDiv (tVar 2) (tC (.int 420))) (tC (.int 3)))) (tCons (tVar 4) (tCons (tOp xAdd (tVar 4) (tC (.int 1))) (tCons (tC (.int 0)) (tCons (tC (.bl true)) (tCons (tC (.str "1")) (tCons (tUn xNeg (tC (.int 1))) (tCons (tOp xAdd (tOp xPow (tC (.int 10)) (tC (.int 30))) (tVar 4)) tNil))))))))) (tOp xMod (tOp xDiv (tVar 2) (tC (.int 49))) (tC (.int 8)))) s M (.dat (pa m x)) M := by
  have h0 := Int.emod_nonneg (x / 49) (show (8 : Int) ≠ 0 by omega)
  have h1 := Int.emod_lt_of_pos (x / 49) (show (0 : Int) < 8 by omega)
  exact pick_ev (l := paL m x) (i := x / 49 % 8) (.lst (ed_cons (.add .int (.mod (.div (.var h2) .int (by decide)) .int (by decide))) (ed_cons (.var h4) (ed_cons (.add (.var h4) .int) (ed_cons .int (ed_cons .bl (ed_cons .str (ed_cons (.neg .int) (ed_cons (.add (.pow .int .int (by unfold CPow; decide)) (.var h4)) ea_nil)))))))) (Nat.le_of_ble_eq_true rfl)) (.mod (.div (.var h2) .int (by decide)) .int (by decide)) h0 (by show _ < (8 : Int); omega)
/-- up to the deed -/
theorem paid_pre {j j1 j2 r c : Nat} {ix : List Nat} {ds : List Dt} {rs : List Int} {x m : Int} {o : Out} (I : DayI X.Day M j j1 j2 r ix c ds rs)
    (hm : (∃ n : Nat, n < ds.length ∧ pn ds.length x = .int (n : Int) ∧ m = rs.getD n 0 ∧ wh 0 ((ds.length : Int) - 1) (pn ds.length x) = true) ∨ (wh 0 ((ds.length : Int) - 1) (pn ds.length x) = false ∧ m = 0))
    (q : Big K E (e_qpaid K X) [some (.cel j), some (.cel r), some (di x), some (.dat (pn ds.length x)), some (di m), some (.dat (pa m x)), some (ds_ (if wh 0 ((ds.length : Int) - 1) (pn ds.length x) = true then if wh 1 m (pa m x) = true then "" else "amount" else "number")), none, none] M o) : Big K E (t_qpaid K X) (args 9 [.cel j, .cel r, di x]) M o := by
  have h0 := Int.emod_nonneg (x / 7) (show (7 : Int) ≠ 0 by omega)
  have h1 := Int.emod_lt_of_pos (x / 7) (show (0 : Int) < 7 by omega)
  refine .st (w := .dat ((pnL ds.length x).getD (x / 7 % 7).toNat .none)) (pick_ev (l := pnL ds.length x) (i := x / 7 % 7) (.lst (ed_cons (rows_len I.R (.var rfl)) (ed_cons (.neg .int) (ed_cons .bl (ed_cons .non (ed_cons .str (ed_cons .bl (ed_cons (.add (.add (rows_len I.R (.var rfl)) .int) (.mod (.div (.var rfl) .int (by decide)) .int (by decide))) ea_nil))))))) (Nat.le_of_ble_eq_true rfl)) (.mod (.div (.var rfl) .int (by decide)) .int (by decide)) h0 (by show _ < (7 : Int); omega)) ?_
  refine .stIf (b := decide (0 < x % 7) && decide (0 < (ds.length : Int))) (w1 := di (x / 7 % (ds.length : Int))) (w := .dat (pn ds.length x)) (.and (.test (.gt (.mod (.var rfl) .int (by decide)) .int)) fun _ => .test (.gt (rows_len I.R (.var rfl)) .int)) (fun hb => .mod (.div (.var rfl) .int (by decide)) (rows_len I.R (.var rfl)) ?_) rfl ?_ ?_
  · have := of_decide_eq_true (Bool.and_eq_true_iff.mp hb).2
    omega
  · unfold pn
    split <;> rfl
  refine .st (w := di 0) .int ?_
  refine .seq (s1 := [some (.cel j), some (.cel r), some (di x), some (.dat (pn ds.length x)), some (di m), none, none, none, none]) (M1 := M) ?_ ?_
  · rcases hm with ⟨n, hn, e1, rfl, e2⟩ | ⟨e1, rfl⟩
    · refine .ite (in_lt (L := ds.length) (.var rfl) (rows_len I.R (.var rfl))) (fun _ => .asg (row_c I.R (row_ev I.R (.var rfl) (.is (.var rfl) ?_) hn) hn)) fun z => ?_
      · rw [e1]
        rfl
      · rw [e2] at z
        cases z
    · refine .ite (in_lt (L := ds.length) (.var rfl) (rows_len I.R (.var rfl))) (fun z => ?_) fun _ => .next
      rw [e1] at z
      cases z
  refine .st (pa_ev rfl rfl) (.st .str (.seq (s1 := [some (.cel j), some (.cel r), some (di x), some (.dat (pn ds.length x)), some (di m), some (.dat (pa m x)), some (ds_ (if wh 0 ((ds.length : Int) - 1) (pn ds.length x) = true then if wh 1 m (pa m x) = true then "" else "amount" else "number")), none, none]) (M1 := M) ?_ q))
  refine .ite (out_lt (L := ds.length) (.var rfl) (rows_len I.R (.var rfl))) (fun z => ?_) fun z => .ite (out_le (m := m) (.var rfl) (.var rfl)) (fun y => ?_) fun y => ?_
  · have e : wh 0 ((ds.length : Int) - 1) (pn ds.length x) = false := by
      cases hq : wh 0 ((ds.length : Int) - 1) (pn ds.length x)
      · rfl
      · rw [hq] at z
        cases z
    rw [e]
    exact .asg .str
  · have e : wh 0 ((ds.length : Int) - 1) (pn ds.length x) = true := by
      cases hq : wh 0 ((ds.length : Int) - 1) (pn ds.length x)
      · rw [hq] at z
        cases z
      · rfl
    have e2 : wh 1 m (pa m x) = false := by
      cases hq : wh 1 m (pa m x)
      · rfl
      · rw [hq] at y
        cases y
    rw [e, e2]
    exact .asg .str
  · have e : wh 0 ((ds.length : Int) - 1) (pn ds.length x) = true := by
      cases hq : wh 0 ((ds.length : Int) - 1) (pn ds.length x)
      · rw [hq] at z
        cases z
      · rfl
    have e2 : wh 1 m (pa m x) = true := by
      cases hq : wh 1 m (pa m x)
      · rw [hq] at y
        cases y
      · rfl
    rw [e, e2]
    exact .next
theorem big_qpaid (k6 : KitOk K X X.NoDebt 6) (k8 : KitOk K X X.BadAmount 8) (h : T_qpaid X M ws o) : BigF K E (t_qpaid K X) (args 9 ws) M o := by
  obtain ⟨j, j1, j2, r, c, ix, ds, rs, x, rfl, I, h⟩ := h
  obtain ⟨a1, a2, a3, b1, b2, c1, a4, b3, c2, d1, e1⟩ := I.ne
  rcases h with ⟨n, v, hn, v1, v2, hp, ha, rfl⟩ | ⟨hn | ⟨n, hn, hp, ha⟩, rfl⟩
  · have w1 : wh 0 ((ds.length : Int) - 1) (pn ds.length x) = true := by
      rw [hp]
      show (decide ((0 : Int) ≤ n) && decide ((n : Int) ≤ (ds.length : Int) - 1)) = true
      rw [decide_eq_true (by omega), decide_eq_true (by omega)] <;> rfl
    have w2 : wh 1 (rs.getD n 0) (pa (rs.getD n 0) x) = true := by
      rw [ha]
      show (decide ((1 : Int) ≤ v) && decide (v ≤ rs.getD n 0)) = true
      rw [decide_eq_true v1, decide_eq_true v2] <;> rfl
    have hm := getD_memN (l := ix) (n := n) (by rw [I.R.len]; exact hn)
    have n1 : ix.getD n 0 ≠ j2 := fun z => c2 (z ▸ hm)
    have rr : (M.set j2 (.lst ((rs.set n (rs.getD n 0 - v)).map di)))[r]? = some (.lst (ix.map W.cel)) := by
      rw [get_ne c1]
      exact I.R.r
    have ri : (M.set j2 (.lst ((rs.set n (rs.getD n 0 - v)).map di)))[ix.getD n 0]? = some (.lst [di (dA ds n), di (dB ds n), di (rs.getD n 0)]) := by
      rw [get_ne n1.symm]
      exact I.R.it n hn
    refine .rt (paid_pre (m := rs.getD n 0) I (.inl ⟨n, hn, hp, rfl, w1⟩) ?_)
    rw [w1, w2, hp, ha]
    refine .seq (s1 := [some (.cel j), some (.cel r), some (di x), some (natW n), some (di (rs.getD n 0)), some (di v), some (ds_ ""), some (di (rs.getD n 0 - v)), none]) (M1 := M.set j2 (.lst ((rs.set n (rs.getD n 0 - v)).map di))) (.tryAM_ok (ws := [natW n, di v]) (.var rfl) I.D.d rfl (ea_cons (.var rfl) (ea_cons (.var rfl) ea_nil)) ⟨j, j1, j2, c, ds, rs, _, _, rfl, I.D, .inl ⟨n, v, hn, rfl, rfl, v1, v2, rfl⟩⟩) (.seqIte (b := false) (.is (.test (.ne (.var rfl) .str (.str _ _))) (by decide)) (fun z => nomatch z) fun _ => .seqN (.seq (s1 := [some (.cel j), some (.cel r), some (di x), some (natW n), some (di (rs.getD n 0)), some (di v), some (ds_ ""), some (di (rs.getD n 0 - v)), none]) (M1 := payM M j2 ix ds rs n v) (.setItem (a := ix.getD n 0) (n := 2) (ws := [di (dA ds n), di (dB ds n), di (rs.getD n 0)]) (i := 2) (.sub (.var rfl) (.var rfl)) (.ixG (.var rfl) (.var rfl) (.lst (.cel rr) (cel_at I.R hn))) .int ri rfl) (.ret (.is (w := db (true && true)) (.and (.call (w := db true) (ea_cons (.var rfl) ea_nil) ⟨_, rfl, rfl⟩) fun _ => .is (.eq (.var rfl) (.sub (.var rfl) (.var rfl)) (.int _ _)) (by rw [decide_eq_true rfl])) rfl))))
  · refine .rt (paid_pre (m := 0) I (.inr ⟨hn, rfl⟩) ?_)
    rw [hn]
    exact .seqR (.tryAM_er (o := .rt (db true) M) (ws := [.dat (pn ds.length x), .dat (pa 0 x)]) (.var rfl) I.D.d rfl (ea_cons (.var rfl) (ea_cons (.var rfl) ea_nil)) ⟨j, j1, j2, c, ds, rs, _, _, rfl, I.D, .inr (.inl ⟨hn, rfl⟩)⟩ k6.d fun a => .ret (kind_eq (w := "number") (by decide) k6 rfl rfl (.var rfl)))
  · have w1 : wh 0 ((ds.length : Int) - 1) (pn ds.length x) = true := by
      rw [hp]
      show (decide ((0 : Int) ≤ n) && decide ((n : Int) ≤ (ds.length : Int) - 1)) = true
      rw [decide_eq_true (by omega), decide_eq_true (by omega)] <;> rfl
    refine .rt (paid_pre (m := rs.getD n 0) I (.inl ⟨n, hn, hp, rfl, w1⟩) ?_)
    rw [w1, ha]
    exact .seqR (.tryAM_er (o := .rt (db true) M) (ws := [.dat (pn ds.length x), .dat (pa (rs.getD n 0) x)]) (.var rfl) I.D.d rfl (ea_cons (.var rfl) (ea_cons (.var rfl) ea_nil)) ⟨j, j1, j2, c, ds, rs, _, _, rfl, I.D, .inr (.inr ⟨n, hn, hp, ha, rfl⟩)⟩ k8.d fun a => .ret (kind_eq (w := "amount") (by decide) k8 rfl rfl (.var rfl)))
end
end Bk

set_option Elab.async false
set_option linter.all false
set_option maxRecDepth 100000
set_option maxHeartbeats 4000000
/-! Q10: the law k10: two days -/
namespace Bk
open PySem L2 Vx HotP
/-- a day and the law's rows, as one thing -/
structure Dy where
  (j a b r : Nat)
  c : Nat
  ix : List Nat
  ds : List Dt
  rs : List Int
def Dy.I (C : Addr) (M : List Cell) (p : Dy) : Prop := DayI C M p.j p.a p.b p.r p.ix p.c p.ds p.rs
def Dy.at (p : Dy) : List Nat := [p.j, p.a, p.b, p.r] ++ p.ix
/-- a deed -/
structure Step (C : Addr) (M : List Cell) (p : Dy) (M' : List Cell) (p' : Dy) : Prop where
  I : p'.I C M'
  j : p'.j = p.j
  r : p'.r = p.r
  c : p'.c = p.c
  l : p'.ds.length ≤ p.ds.length + 1
  i : ∀ i ∈ p'.at, i ∈ p.at ∨ M.length ≤ i
  k : ∀ i, i ∉ p.at → i < M.length → M'[i]? = M[i]?
def hcel (l : List PyData) : W := dt [.list l, .list l]
structure St10 (C : Addr) (M : List Cell) (D R H : Nat) (N : Nat → Nat) (P : Nat → Dy) (hs : List (List PyData)) (k : Nat) : Prop where
  d : M[D]? = some (.lst [.cel (P 0).j, .cel (P 1).j])
  r : M[R]? = some (.lst [.cel (P 0).r, .cel (P 1).r])
  h : M[H]? = some (.lst (hs.map hcel))
  n1 : H ≠ D
  n2 : H ≠ R
  I : ∀ t, t < 2 → (P t).I C M
  f : ∀ t, t < 2 → ∀ i ∈ (P t).at, i ≠ D ∧ i ≠ R ∧ i ≠ H
  x : ∀ i ∈ (P 0).at, i ∉ (P 1).at
  l : ∀ t, t < 2 → (P t).ds.length ≤ k
  c : ∀ t, t < 2 → (P t).c = N t
  p : ∀ l ∈ hs, pI 2 (.list l) = true
def upP (P : Nat → Dy) (t : Nat) (p : Dy) (u : Nat) : Dy := if u = t then p else P u
section
variable {C : Addr} {M M' : List Cell} {D R H k t : Nat} {N : Nat → Nat} {P : Nat → Dy} {hs : List (List PyData)} {p' : Dy}
theorem upP_j (h : p'.j = (P t).j) (u : Nat) : (upP P t p' u).j = (P u).j := by
  unfold upP
  split
  · next e => rw [h, e]
  · rfl
theorem upP_r (h : p'.r = (P t).r) (u : Nat) : (upP P t p' u).r = (P u).r := by
  unfold upP
  split
  · next e => rw [h, e]
  · rfl
theorem St10.dis (h : St10 C M D R H N P hs k) {t u : Nat} (ht : t < 2) (hu : u < 2) (ne : t ≠ u) : ∀ i ∈ (P t).at, i ∉ (P u).at := by
  intro i hi hj
  rcases (by omega : t = 0 ∧ u = 1 ∨ t = 1 ∧ u = 0) with ⟨rfl, rfl⟩ | ⟨rfl, rfl⟩
  · exact h.x i hi hj
  · exact h.x i hj hi
theorem St10.step (h : St10 C M D R H N P hs k) (ht : t < 2) (s : Step C M (P t) M' p') : St10 C M' D R H N (upP P t p') hs (k + 1) := by
  have up : ∀ {i : Nat} {x : Cell}, M[i]? = some x → i < M.length := fun e => (List.getElem?_eq_some_iff.mp e).1
  have f := h.f t ht
  have lt : ∀ u, u < 2 → ∀ i ∈ (P u).at, i < M.length := fun u hu => (h.I u hu).lt
  have at' : ∀ u, u < 2 → u ≠ t → ∀ i ∈ (P u).at, M'[i]? = M[i]? := fun u hu ne i hi => s.k i (h.dis hu ht ne i hi) (lt u hu i hi)
  have hD := up h.d
  have hR := up h.r
  have hH := up h.h
  have nat : ∀ u, u < 2 → ∀ i ∈ (upP P t p' u).at, i ∈ (P u).at ∨ (M.length ≤ i ∧ u = t) := fun u hu i hi => by
    unfold upP at hi
    split at hi
    · next e =>
      subst e
      rcases s.i i hi with z | z
      · exact .inl z
      · exact .inr ⟨z, rfl⟩
    · exact .inl hi
  refine ⟨?_, ?_, ?_, h.n1, h.n2, fun u hu => ?_, fun u hu i hi => ?_, fun i hi hj => ?_, fun u hu => ?_, fun u hu => ?_, h.p⟩
  · rw [upP_j s.j, upP_j s.j, s.k D (fun z => (f D z).1 rfl) hD]
    exact h.d
  · rw [upP_r s.r, upP_r s.r, s.k R (fun z => (f R z).2.1 rfl) hR]
    exact h.r
  · rw [s.k H (fun z => (f H z).2.2 rfl) hH]
    exact h.h
  · unfold upP
    split
    · exact s.I
    · next e => exact (h.I u hu).keep (at' u hu e)
  · rcases nat u hu i hi with z | ⟨z, _⟩
    · exact h.f u hu i z
    · exact ⟨by omega, by omega, by omega⟩
  · rcases nat 0 (by omega) i hi with z | ⟨z, e⟩ <;> rcases nat 1 (by omega) i hj with y | ⟨y, e2⟩
    · exact h.x i z y
    · have := lt 0 (by omega) i z
      omega
    · have := lt 1 (by omega) i y
      omega
    · omega
  · have := h.l u hu
    have := h.l t ht
    have := s.l
    unfold upP
    split <;> omega
  · have h1 := h.c u hu
    have h2 := h.c t ht
    have h3 := s.c
    unfold upP
    split
    · next e => rw [h3, h2, e]
    · exact h1
/-- a list told is held -/
theorem St10.hold {l : List PyData} (h : St10 C M D R H N P hs k) (hl : pI 2 (.list l) = true) : St10 C (M.set H (.lst (hs.map hcel ++ [hcel l]))) D R H N P (hs ++ [l]) k := by
  have hH := (List.getElem?_eq_some_iff.mp h.h).1
  refine ⟨?_, ?_, ?_, h.n1, h.n2, fun u hu => (h.I u hu).keep fun i hi => get_ne (h.f u hu i hi).2.2.symm, h.f, h.x, h.l, h.c, fun x hx => ?_⟩
  · rw [get_ne h.n1]
    exact h.d
  · rw [get_ne h.n2]
    exact h.r
  · rw [List.map_append]
    exact get_set hH
  · rcases List.mem_append.mp hx with hx | hx
    · exact h.p x hx
    · rw [List.mem_singleton.mp hx]
      exact hl
theorem Step.none {p : Dy} (I : p.I C M) : Step C M p M p := ⟨I, rfl, rfl, rfl, by omega, fun _ h => .inl h, fun _ _ _ => rfl⟩
theorem Step.owe {p : Dy} {d : Dt} (I : p.I C M) (ok : DtOk p.c d) (hl : p.ds.length < 500) : Step C M p (oweM M p.a p.b p.r p.ix p.ds p.rs d) ⟨p.j, p.a, p.b, p.r, p.c, p.ix ++ [M.length], p.ds ++ [d], p.rs ++ [d.m]⟩ := by
  refine ⟨DayI.owe I ok hl, rfl, rfl, rfl, by simp, fun i hi => ?_, fun i hi hl => oweM_at (fun z => hi ?_) (fun z => hi ?_) (fun z => hi ?_) hl⟩
  · have hi' : i ∈ [p.j, p.a, p.b, p.r] ++ (p.ix ++ [M.length]) := hi
    rw [← List.append_assoc] at hi'
    rcases List.mem_append.mp hi' with z | z
    · exact .inl z
    · rw [List.mem_singleton.mp z]
      exact .inr (Nat.le_refl _)
  · unfold Dy.at
    simp [z]
  · unfold Dy.at
    simp [z]
  · unfold Dy.at
    simp [z]
theorem Step.pay {p : Dy} {n : Nat} {v : Int} (I : p.I C M) (hn : n < p.ds.length) (v1 : 1 ≤ v) (v2 : v ≤ p.rs.getD n 0) : Step C M p (payM M p.b p.ix p.ds p.rs n v) ⟨p.j, p.a, p.b, p.r, p.c, p.ix, p.ds, p.rs.set n (p.rs.getD n 0 - v)⟩ := by
  refine ⟨DayI.pay I hn v1 v2, rfl, rfl, rfl, by simp, fun i hi => .inl hi, fun i hi hl => payM_at (fun z => hi ?_) (fun z => hi ?_)⟩
  · unfold Dy.at
    simp [z]
  · rw [z]
    exact List.mem_append_right _ (getD_memN (by rw [I.R.len]; exact hn))
end
section
variable {K : PySem.W.Frag} {E : XK} {M M1 M2 : List Cell} {s : List Sl} {ws : List W} {o : Res} {X : Xs} {ta tb te : TE}
theorem cnt_ev {N : Nat → Nat} {t : Nat} (h : Ev K te s M (dl [.int (N 0 : Int), .int (N 1 : Int)]) M) (hi : Ev K ta s M (natW t) M) (ht : t < 2) : Ev K (tOp (rIx K) te ta) s M (di (N t : Int)) M := by
  rcases (by omega : t = 0 ∨ t = 1) with rfl | rfl
  · exact .ixG h hi (.dat rfl)
  · exact .ixG h hi (.dat rfl)
theorem two_ev {f : Nat → Nat} {a t : Nat} (hm : M[a]? = some (.lst [.cel (f 0), .cel (f 1)])) (h : Ev K te s M (.cel a) M) (hi : Ev K ta s M (natW t) M) (ht : t < 2) : Ev K (tOp (rIx K) te ta) s M (.cel (f t)) M := by
  rcases (by omega : t = 0 ∨ t = 1) with rfl | rfl
  · exact .ixG h hi (.lst (.cel hm) rfl)
  · exact .ixG h hi (.lst (.cel hm) rfl)
def h_law10 (K : PySem.W.Frag) (X : Xs) : TS := (tIfS (tTest (tOp rEq (tOp xMod (tOp xDiv (tVar 7) (tC (.int 7))) (tC (.int 2))) (tC (.int 1)))) (tSeq (tAsg (tMeth X.Day "standing" (spOf K (T_Day_standing X)) [] E0 (tOp (rIx K) (tVar 2) (tVar 6)) tNil) (gName 9))
    (tDrop (tBM K "list" rAppend (tVar 4) (tCons (tTup (tCons (tVar 9) (tCons (tCB (rListX K) (tCons (tVar 9) tNil)) tNil))) tNil)))) tNext)
def n_law10 (K : PySem.W.Frag) (X : Xs) : TS := (tSeq (tAsg (tOp (rIx K) (tLst (tCons (tUn xNeg (tC (.int 1))) (tCons (tOp (rIx K) (tVar 1) (tVar 6)) (tCons (tC (.bl true)) (tCons (tC .non) (tCons (tC (.str "0")) (tCons (tOp xAdd (tOp (rIx K) (tVar 1) (tVar 6)) (tC (.int 9))) (tCons (tC (.bl false)) tNil)))))))) (tOp xMod (tOp xDiv (tVar 7) (tC (.int 8))) (tC (.int 7)))) (gName 10))
    (tSeq (tAsg (tOp (rIx K) (tLst (tCons (tUn xNeg (tC (.int 1))) (tCons (tCB (rLenX K) (tCons (tOp (rIx K) (tVar 3) (tVar 6)) tNil)) (tCons (tC (.bl true)) (tCons (tC .non) (tCons (tC (.bl false)) (tCons (tOp xAdd (tCB (rLenX K) (tCons (tOp (rIx K) (tVar 3) (tVar 6)) tNil)) (tC (.int 7))) tNil))))))) (tOp xMod (tOp xDiv (tVar 7) (tC (.int 8))) (tC (.int 6)))) (gName 11))
    (tAsg (tAndV (tCall (spOf K (T_qno_house X)) [] E0 (tCons (tOp (rIx K) (tVar 2) (tVar 6)) (tCons (tVar 10) tNil))) (tCall (spOf K (T_qno_number X)) [] E0 (tCons (tOp (rIx K) (tVar 2) (tVar 6)) (tCons (tVar 11) tNil)))) (gName 8))))
def g_law10 (K : PySem.W.Frag) (X : Xs) : TS := (tIfS (tTest (tOp xLt (tOp xMod (tVar 7) (tC (.int 8))) (tC (.int 4)))) (tAsg (tCall (spOf K (T_qowed X)) [] E0 (tCons (tOp (rIx K) (tVar 2) (tVar 6)) (tCons (tOp (rIx K) (tVar 3) (tVar 6)) (tCons (tOp (rIx K) (tVar 1) (tVar 6)) (tCons (tOp xDiv (tVar 7) (tC (.int 8))) tNil))))) (gName 8)) (tIfS (tTest (tOp xLt (tOp xMod (tVar 7) (tC (.int 8))) (tC (.int 7)))) (tAsg (tCall (spOf K (T_qpaid X)) [] E0 (tCons (tOp (rIx K) (tVar 2) (tVar 6)) (tCons (tOp (rIx K) (tVar 3) (tVar 6)) (tCons (tOp xDiv (tVar 7) (tC (.int 8))) tNil)))) (gName 8)) (n_law10 K X)))
def z_law10 (K : PySem.W.Frag) (X : Xs) : TS := (tIfS (tOr (tNot (tB (tVar 8))) (tNot (tB (tCall (spOf K (T_qstands X)) [] E0 (tCons (tOp (rIx K) (tVar 2) (tVar 6)) (tCons (tOp (rIx K) (tVar 3) (tVar 6)) (tCons (tOp (rIx K) (tVar 1) (tVar 6)) (tCons (tOp xDiv (tVar 7) (tC (.int 5))) tNil)))))))) (tRet (tC (.bl false))) tNext)
def u_law10 (K : PySem.W.Frag) (X : Xs) : TS := (tSeq (tAsg (tCB rIntX (tCons (tOp rEq (tOp xMod (tVar 5) (tC (.int 3))) (tC (.int 0))) tNil)) (gName 6))
    (tSeq (tAsg (tOp xDiv (tVar 5) (tC (.int 3))) (gName 7))
    (tSeq (tAsg (tC (.bl true)) (gName 8))
    (tSeq (h_law10 K X)
    (tSeq (g_law10 K X)
    (z_law10 K X))))))
def r_law10 (K : PySem.W.Frag) (X : Xs) : TS := (tSeq (tIfS (tOr (tNot (tB (tCall (spOf K (T_qstands X)) [] E0 (tCons (tOp (rIx K) (tVar 2) (tC (.int 0))) (tCons (tOp (rIx K) (tVar 3) (tC (.int 0))) (tCons (tOp (rIx K) (tVar 1) (tC (.int 0))) (tCons (tC (.int 0)) tNil))))))) (tNot (tB (tCall (spOf K (T_qstands X)) [] E0 (tCons (tOp (rIx K) (tVar 2) (tC (.int 1))) (tCons (tOp (rIx K) (tVar 3) (tC (.int 1))) (tCons (tOp (rIx K) (tVar 1) (tC (.int 1))) (tCons (tC (.int 1)) tNil)))))))) (tRet (tC (.bl false))) tNext)
    (tRet (tOp (rEqD K) (tLc (iList K (tVar 4)) (gName 12) (tTest (tOp (rNeD K) (tOp (rIx K) (tVar 12) (tC (.int 0))) (tOp (rIx K) (tVar 12) (tC (.int 1))))) (tVar 12) [12]) (tLst tNil))))
def t_law10 (K : PySem.W.Frag) (X : Xs) : TS := (tSeq (tAsg (tLst (tCons (tOp xAdd (tC (.int 2)) (tOp xMod (tCall (spOf K T_qcell_at) [] E0 (tCons (tVar 0) (tCons (tC (.int 0)) tNil))) (tC (.int 5)))) (tCons (tOp xAdd (tC (.int 2)) (tOp xMod (tCall (spOf K T_qcell_at) [] E0 (tCons (tVar 0) (tCons (tC (.int 1)) tNil))) (tC (.int 19)))) tNil))) (gName 1))
    (tSeq (tIfS (tAnd (tTest (tOp rEq (tOp xMod (tOp xDiv (tCall (spOf K T_qcell_at) [] E0 (tCons (tVar 0) (tCons (tC (.int 0)) tNil))) (tC (.int 5))) (tC (.int 9))) (tC (.int 1)))) (tNot (tB (tCall (spOf K T_qno_count) [] E0 (tCons (tOp xDiv (tCall (spOf K T_qcell_at) [] E0 (tCons (tVar 0) (tCons (tC (.int 1)) tNil))) (tC (.int 5))) tNil))))) (tRet (tC (.bl false))) tNext)
    (tSeq (tAsg (tLst (tCons (tMake X.Day (spOf K (T_Day_init X)) [] E0 (tCons (tOp (rIx K) (tVar 1) (tC (.int 0))) tNil)) (tCons (tMake X.Day (spOf K (T_Day_init X)) [] E0 (tCons (tOp (rIx K) (tVar 1) (tC (.int 1))) tNil)) tNil))) (gName 2))
    (tSeq (tAsg (tLst (tCons (tLst tNil) (tCons (tLst tNil) tNil))) (gName 3))
    (tSeq (tAsg (tLst tNil) (gName 4))
    (tSeq (tFor (iList K (tSl (rSlL K) (tVar 0) (tPart (tC (.int 2))) (tPart (tC (.int 42))))) (gName 5) (u_law10 K X))
    (r_law10 K X)))))))
def T_law10 (M : List Cell) (ws : List W) (o : Res) : Prop := ∃ ns : List Int, ns.length ≤ 63 ∧ ws = [.scr ns] ∧ M = [] ∧ o = .ret (db true) M
variable {D R H k t : Nat} {N : Nat → Nat} {P : Nat → Dy} {hs : List (List PyData)} {ns : List Int}
def sl10 (ns : List Int) (N : Nat → Nat) (D R H : Nat) (s5 s6 s7 s8 s9 s10 s11 : Sl) : List Sl := [some (.scr ns), some (dl [.int (N 0 : Int), .int (N 1 : Int)]), some (.cel D), some (.cel R), some (.cel H), s5, s6, s7, s8, s9, s10, s11, none]
theorem held10 {x y : Int} {w8 : W} {s9 s10 s11 : Sl} (S : St10 X.Day M D R H N P hs k) (ht : t < 2) (hh : hs.length ≤ 100) : ∃ M' hs' s9', St10 X.Day M' D R H N P hs' k ∧ hs'.length ≤ hs.length + 1 ∧
    Big K E (h_law10 K X) (sl10 ns N D R H (some (di x)) (some (natW t)) (some (di y)) (some w8) s9 s10 s11) M (.nx (sl10 ns N D R H (some (di x)) (some (natW t)) (some (di y)) (some w8) s9' s10 s11) M') := by
  have tst : EvB K (tTest (tOp rEq (tOp xMod (tOp xDiv (tVar 7) (tC (.int 7))) (tC (.int 2))) (tC (.int 1)))) (sl10 ns N D R H (some (di x)) (some (natW t)) (some (di y)) (some w8) s9 s10 s11) M (decide (y / 7 % 2 = 1)) M := .test (.eq (.mod (.div (.var rfl) .int (by decide)) .int (by decide)) .int (.int _ _))
  by_cases q : y / 7 % 2 = 1
  · have I := S.I t ht
    refine ⟨_, _, some (dl (stF (P t).ds (P t).rs)), S.hold (l := stF (P t).ds (P t).rs) ?_, by simp, .ite tst (fun _ => .seq (s1 := sl10 ns N D R H (some (di x)) (some (natW t)) (some (di y)) (some w8) (some (dl (stF (P t).ds (P t).rs))) s10 s11) (M1 := M) (.asg (.meth (ws := []) (two_ev (f := fun t => (P t).j) S.d (.var rfl) (.var rfl) ht) I.D.d rfl ea_nil ⟨_, _, _, _, _, _, rfl, I.D, .inl rfl⟩)) (.append (ws := hs.map hcel) (.var rfl) (.tup (ed_cons (.var rfl) (ed_cons (.list (.var rfl) (.dat _)) ea_nil)) (Nat.le_of_ble_eq_true rfl)) ⟨_, S.h⟩ S.h (by rw [List.length_map]; omega))) fun z => absurd q (of_decide_eq_false z)⟩
    unfold stF
    exact pI_map fun _ _ => rfl
  · exact ⟨M, hs, s9, S, by omega, .ite tst (fun z => absurd (of_decide_eq_true z) q) fun _ => .next⟩
def nhL (c : Nat) : List PyData := [.int (-1), .int (c : Int), .bool true, .none, .str "0", .int ((c : Int) + 9), .bool false]
def nnL (l : Nat) : List PyData := [.int (-1), .int (l : Int), .bool true, .none, .bool false, .int ((l : Int) + 7)]
theorem nhL_no {c : Nat} : ∀ e ∈ nhL c, wh 0 ((c : Int) - 1) e = false := by
  intro e he
  unfold nhL at he
  simp only [List.mem_cons, List.not_mem_nil, or_false] at he
  rcases he with rfl | rfl | rfl | rfl | rfl | rfl | rfl
  · rw [whI]
    exact dec_f (by omega)
  · rw [whI]
    exact dec_f (by omega)
  · rfl
  · rfl
  · rfl
  · rw [whI]
    exact dec_f (by omega)
  · rfl
theorem nnL_no {c : Nat} : ∀ e ∈ nnL c, wh 0 ((c : Int) - 1) e = false := by
  intro e he
  unfold nnL at he
  simp only [List.mem_cons, List.not_mem_nil, or_false] at he
  rcases he with rfl | rfl | rfl | rfl | rfl | rfl
  · rw [whI]
    exact dec_f (by omega)
  · rw [whI]
    exact dec_f (by omega)
  · rfl
  · rfl
  · rfl
  · rw [whI]
    exact dec_f (by omega)
theorem deed10 {x y : Int} {w8 : W} {s9 s10 s11 : Sl} (S : St10 X.Day M D R H N P hs k) (ht : t < 2) (hk : k < 500) (hN : ∀ t, t < 2 → 2 ≤ N t) : ∃ M' p' s10' s11', Step X.Day M (P t) M' p' ∧
    Big K E (g_law10 K X) (sl10 ns N D R H (some (di x)) (some (natW t)) (some (di y)) (some w8) s9 s10 s11) M (.nx (sl10 ns N D R H (some (di x)) (some (natW t)) (some (di y)) (some (db true)) s9 s10' s11') M') := by
  have I := S.I t ht
  have hl := S.l t ht
  have hc : (P t).c = N t := S.c t ht
  have hn := hN t ht
  have eD : ∀ {s10 s11 : Sl}, Ev K (tOp (rIx K) (tVar 2) (tVar 6)) (sl10 ns N D R H (some (di x)) (some (natW t)) (some (di y)) (some w8) s9 s10 s11) M (.cel (P t).j) M := two_ev (f := fun t => (P t).j) S.d (.var rfl) (.var rfl) ht
  have eR : ∀ {s10 s11 : Sl}, Ev K (tOp (rIx K) (tVar 3) (tVar 6)) (sl10 ns N D R H (some (di x)) (some (natW t)) (some (di y)) (some w8) s9 s10 s11) M (.cel (P t).r) M := two_ev (f := fun t => (P t).r) S.r (.var rfl) (.var rfl) ht
  have eC : ∀ {s10 s11 : Sl}, Ev K (tOp (rIx K) (tVar 1) (tVar 6)) (sl10 ns N D R H (some (di x)) (some (natW t)) (some (di y)) (some w8) s9 s10 s11) M (di ((P t).c : Int)) M := by
    rw [hc]
    exact cnt_ev (.var rfl) (.var rfl) ht
  have tst : ∀ {n : Int}, EvB K (tTest (tOp xLt (tOp xMod (tVar 7) (tC (.int 8))) (tC (.int n)))) (sl10 ns N D R H (some (di x)) (some (natW t)) (some (di y)) (some w8) s9 s10 s11) M (decide (y % 8 < n)) M := .test (.lt (.mod (.var rfl) .int (by decide)) .int)
  by_cases q : y % 8 < 4
  · have key : ∀ M', (M' = if y / 8 % 6 = 5 then M else oweM M (P t).a (P t).b (P t).r (P t).ix (P t).ds (P t).rs (ow (P t).c (y / 8))) → Big K E (g_law10 K X) (sl10 ns N D R H (some (di x)) (some (natW t)) (some (di y)) (some w8) s9 s10 s11) M (.nx (sl10 ns N D R H (some (di x)) (some (natW t)) (some (di y)) (some (db true)) s9 s10 s11) M') := fun M' e =>
      .ite tst (fun _ => .asg (.call (w := db true) (ea_cons eD (ea_cons eR (ea_cons eC (ea_cons (.div (.var rfl) .int (by decide)) ea_nil)))) ⟨_, _, _, _, _, _, _, _, _, rfl, I, by omega, by omega, by rw [e]⟩)) fun z => absurd q (of_decide_eq_false z)
    by_cases q2 : y / 8 % 6 = 5
    · exact ⟨M, P t, s10, s11, .none I, key M (by rw [if_pos q2])⟩
    · exact ⟨_, _, s10, s11, .owe I (ow_ok (x := y / 8) (by omega)) (by omega), key _ (by rw [if_neg q2])⟩
  · by_cases q3 : y % 8 < 7
    · have key : ∀ M', T_qpaid X M [.cel (P t).j, .cel (P t).r, di (y / 8)] (.ret (db true) M') → Big K E (g_law10 K X) (sl10 ns N D R H (some (di x)) (some (natW t)) (some (di y)) (some w8) s9 s10 s11) M (.nx (sl10 ns N D R H (some (di x)) (some (natW t)) (some (di y)) (some (db true)) s9 s10 s11) M') := fun M' e =>
        .ite tst (fun z => absurd (of_decide_eq_true z) q) fun _ => .ite tst (fun _ => .asg (.call (w := db true) (ea_cons eD (ea_cons eR (ea_cons (.div (.var rfl) .int (by decide)) ea_nil))) e)) fun z => absurd q3 (of_decide_eq_false z)
      rcases pn_or (L := (P t).ds.length) (x := y / 8) with ⟨n, hn, e1, _⟩ | e1
      · cases hw : wh 1 ((P t).rs.getD n 0) (pa ((P t).rs.getD n 0) (y / 8))
        · exact ⟨M, P t, s10, s11, .none I, key M ⟨_, _, _, _, _, _, _, _, _, rfl, I, .inr ⟨.inr ⟨n, hn, e1, hw⟩, rfl⟩⟩⟩
        · obtain ⟨v, ev⟩ : ∃ v, pa ((P t).rs.getD n 0) (y / 8) = .int v := by
            cases hp : pa ((P t).rs.getD n 0) (y / 8) <;> first | exact ⟨_, rfl⟩ | (rw [hp] at hw; cases hw)
          rw [ev] at hw
          have hv : (decide ((1 : Int) ≤ v) && decide (v ≤ (P t).rs.getD n 0)) = true := hw
          have v1 : 1 ≤ v := of_decide_eq_true (Bool.and_eq_true_iff.mp hv).1
          have v2 : v ≤ (P t).rs.getD n 0 := of_decide_eq_true (Bool.and_eq_true_iff.mp hv).2
          exact ⟨_, _, s10, s11, .pay I hn v1 v2, key _ ⟨_, _, _, _, _, _, _, _, _, rfl, I, .inl ⟨n, v, hn, v1, v2, e1, ev, rfl⟩⟩⟩
      · exact ⟨M, P t, s10, s11, .none I, key M ⟨_, _, _, _, _, _, _, _, _, rfl, I, .inr ⟨.inl e1, rfl⟩⟩⟩
    · have a0 := Int.emod_nonneg (y / 8) (show (7 : Int) ≠ 0 by omega)
      have a1 := Int.emod_lt_of_pos (y / 8) (show (0 : Int) < 7 by omega)
      have b0 := Int.emod_nonneg (y / 8) (show (6 : Int) ≠ 0 by omega)
      have b1 := Int.emod_lt_of_pos (y / 8) (show (0 : Int) < 6 by omega)
      refine ⟨M, P t, some (.dat ((nhL (P t).c).getD (y / 8 % 7).toNat .none)), some (.dat ((nnL (P t).ds.length).getD (y / 8 % 6).toNat .none)), .none I, .ite tst (fun z => absurd (of_decide_eq_true z) q) fun _ => .ite tst (fun z => absurd (of_decide_eq_true z) q3) fun _ => ?_⟩
      refine .st (pick_ev (l := nhL (P t).c) (i := y / 8 % 7) (.lst (ed_cons (.neg .int) (ed_cons eC (ed_cons .bl (ed_cons .non (ed_cons .str (ed_cons (.add eC .int) (ed_cons .bl ea_nil))))))) (Nat.le_of_ble_eq_true rfl)) (.mod (.div (.var rfl) .int (by decide)) .int (by decide)) a0 (by show _ < (7 : Int); omega)) ?_
      refine .st (pick_ev (l := nnL (P t).ds.length) (i := y / 8 % 6) (.lst (ed_cons (.neg .int) (ed_cons (rows_len I.R eR) (ed_cons .bl (ed_cons .non (ed_cons .bl (ed_cons (.add (rows_len I.R eR) .int) ea_nil)))))) (Nat.le_of_ble_eq_true rfl)) (.mod (.div (.var rfl) .int (by decide)) .int (by decide)) b0 (by show _ < (6 : Int); omega)) ?_
      exact .asg (.is (w := db (true && true)) (.and (.call (w := db true) (ea_cons eD (ea_cons (.var rfl) ea_nil)) ⟨_, _, _, _, _, _, _, rfl, I.D, nhL_no _ (getD_memP (by show _ < 7; omega)), rfl⟩) fun _ => .call (w := db true) (ea_cons eD (ea_cons (.var rfl) ea_nil)) ⟨_, _, _, _, _, _, _, rfl, I.D, nnL_no _ (getD_memP (by show _ < 6; omega)), rfl⟩) rfl)
theorem turn10 {x : Int} {s6 s7 s8 s9 s10 s11 : Sl} (S : St10 X.Day M D R H N P hs k) (hk : k < 64) (hh : hs.length ≤ k) (hN : ∀ t, t < 2 → 2 ≤ N t) : ∃ M' P' hs' s6' s7' s8' s9' s10' s11', St10 X.Day M' D R H N P' hs' (k + 1) ∧ hs'.length ≤ k + 1 ∧
    Big K E (u_law10 K X) (sl10 ns N D R H (some (di x)) s6 s7 s8 s9 s10 s11) M (.nx (sl10 ns N D R H (some (di x)) s6' s7' s8' s9' s10' s11') M') := by
  have ht : (if x % 3 = 0 then 1 else 0) < 2 := by split <;> omega
  obtain ⟨M1, hs1, s9', S1, h1, q1⟩ := held10 (K := K) (E := E) (x := x) (y := x / 3) (w8 := db true) (s9 := s9) (s10 := s10) (s11 := s11) (ns := ns) (t := if x % 3 = 0 then 1 else 0) S ht (by omega)
  obtain ⟨M2, p2, s10', s11', st, q2⟩ := deed10 (K := K) (E := E) (x := x) (y := x / 3) (w8 := db true) (s9 := s9') (s10 := s10) (s11 := s11) (ns := ns) (t := if x % 3 = 0 then 1 else 0) S1 ht (by omega) hN
  have S2 := S1.step ht st
  refine ⟨M2, _, hs1, some (natW (if x % 3 = 0 then 1 else 0)), some (di (x / 3)), some (db true), s9', s10', s11', S2, by omega, ?_⟩
  refine .st (w := natW (if x % 3 = 0 then 1 else 0)) (.is (.intB (b := decide (x % 3 = 0)) (.eq (.mod (.var rfl) .int (by decide)) .int (.int _ _))) ?_) (.st (.div (.var rfl) .int (by decide)) (.st .bl (.seq q1 (.seq q2 ?_))))
  · by_cases e : x % 3 = 0
    · rw [if_pos (decide_eq_true e), if_pos e] <;> rfl
    · rw [if_neg (fun z => e (of_decide_eq_true z)), if_neg e] <;> rfl
  · have I := S2.I _ ht
    have hc := S2.c _ ht
    refine .ite (b := !true || !true) (.or (.not (.val (.var rfl))) fun _ => .not (.val (.call (w := db true) (ea_cons (two_ev (f := fun t => (upP P (if x % 3 = 0 then 1 else 0) p2 t).j) S2.d (.var rfl) (.var rfl) ht) (ea_cons (two_ev (f := fun t => (upP P (if x % 3 = 0 then 1 else 0) p2 t).r) S2.r (.var rfl) (.var rfl) ht) (ea_cons (cnt_ev (N := N) (.var rfl) (.var rfl) ht) (ea_cons (.div (.var rfl) .int (by decide)) ea_nil)))) ⟨_, _, _, _, _, _, _, _, x / 3 / 5, ?_, I.D, I.R, rfl⟩))) (fun z => nomatch z) fun _ => .next
    rw [hc]
theorem loop10 : ∀ (l : List Int) (M : List Cell) (P : Nat → Dy) (hs : List (List PyData)) (k : Nat) (s5 s6 s7 s8 s9 s10 s11 : Sl), St10 X.Day M D R H N P hs k → k + l.length ≤ 64 → hs.length ≤ k → (∀ t, t < 2 → 2 ≤ N t) → ∃ M' P' hs', St10 X.Day M' D R H N P' hs' (k + l.length) ∧ hs'.length ≤ k + l.length ∧
    ForL K E (gName 5) (u_law10 K X) (l.map di) (sl10 ns N D R H s5 s6 s7 s8 s9 s10 s11) M (.nx (sl10 ns N D R H none none none none none none none) M')
  | [], M, P, hs, k, s5, s6, s7, s8, s9, s10, s11, S, _, hh, _ => ⟨M, P, hs, S, hh, _, .cons (.inr rfl) (.cons (.inr rfl) (.cons (.inr rfl) (.cons (.inr rfl) (.cons (.inr rfl) (.cons (.inl rfl) (.cons (.inl rfl) (.cons (.inl rfl) (.cons (.inl rfl) (.cons (.inl rfl) (.cons (.inl rfl) (.cons (.inl rfl) (.cons (.inr rfl) .nil)))))))))))), rfl⟩
  | x :: l, M, P, hs, k, s5, s6, s7, s8, s9, s10, s11, S, hl, hh, hN => by
    rw [List.length_cons] at hl
    obtain ⟨M1, P1, hs1, a6, a7, a8, a9, a10, a11, S1, h1, q1⟩ := turn10 (K := K) (E := E) (x := x) (s6 := s6) (s7 := s7) (s8 := s8) (s9 := s9) (s10 := s10) (s11 := s11) (ns := ns) S (by omega) hh hN
    obtain ⟨M2, P2, hs2, S2, h2, q2⟩ := loop10 l M1 P1 hs1 (k + 1) (some (di x)) a6 a7 a8 a9 a10 a11 S1 (by omega) h1 hN
    refine ⟨M2, P2, hs2, ?_, by rw [List.length_cons]; omega, _, .name q1, q2⟩
    rw [List.length_cons, show k + (l.length + 1) = k + 1 + l.length by omega]
    exact S2
theorem last10 (S : St10 X.Day M D R H N P hs k) (hh : hs.length ≤ 100) : Big K E (r_law10 K X) (sl10 ns N D R H none none none none none none none) M (.rt (db true) M) := by
  have st : ∀ (t : Nat) (x : Int), t < 2 → Ev K (tCall (spOf K (T_qstands X)) [] E0 (tCons (tOp (rIx K) (tVar 2) (tC (.int (t : Int)))) (tCons (tOp (rIx K) (tVar 3) (tC (.int (t : Int)))) (tCons (tOp (rIx K) (tVar 1) (tC (.int (t : Int)))) (tCons (tC (.int x)) tNil))))) (sl10 ns N D R H none none none none none none none) M (db true) M := fun t x ht => by
    have I := S.I t ht
    refine .call (ea_cons (two_ev (f := fun t => (P t).j) S.d (.var rfl) .int ht) (ea_cons (two_ev (f := fun t => (P t).r) S.r (.var rfl) .int ht) (ea_cons (cnt_ev (N := N) (.var rfl) .int ht) (ea_cons .int ea_nil)))) ⟨_, _, _, _, _, _, _, _, x, ?_, I.D, I.R, rfl⟩
    rw [S.c t ht]
  refine .seqIte (b := !true || !true) (.or (.not (.val (st 0 0 (by omega)))) fun _ => .not (.val (st 1 1 (by omega)))) (fun z => nomatch z) fun _ => .seqN (.ret (.eqP 1 (d := .list []) (e := .list []) (w1 := dl []) (w2 := dl []) (.is (.lcL (xs := hs) (enc := hcel) (p := fun _ => false) (f := fun l => PyData.tuple [.list l, .list l]) (.var rfl) (.cel S.h) (by omega) (fun l hl => .test (.neSelf 2 (d := .list l) (.ixG (.var rfl) .int (.tup rfl)) (.ixG (.var rfl) .int (.tup rfl)) (.dat _) (.dat _) (by decide) (pB_of_pI 2 _ (S.p l hl)))) fun l hl z => nomatch z) ?_) (.lst ea_nil (by decide)) (.dat _) (.dat _) (by decide) rfl rfl (by simp)))
  rw [List.filter_eq_nil_iff.mpr (fun _ _ z => by cases z)] <;> rfl
theorem big_law10 (h : T_law10 M ws o) : BigF K E (t_law10 K X) (args 13 ws) M o := by
  obtain ⟨ns, hns, rfl, rfl, rfl⟩ := h
  have a0 := Int.emod_nonneg (cellAt ns 0) (show (5 : Int) ≠ 0 by omega)
  have a1 := Int.emod_lt_of_pos (cellAt ns 0) (show (0 : Int) < 5 by omega)
  have b0 := Int.emod_nonneg (cellAt ns 1) (show (19 : Int) ≠ 0 by omega)
  have b1 := Int.emod_lt_of_pos (cellAt ns 1) (show (0 : Int) < 19 by omega)
  obtain ⟨c0, e0⟩ : ∃ c : Nat, (c : Int) = 2 + cellAt ns 0 % 5 := ⟨(2 + cellAt ns 0 % 5).toNat, by omega⟩
  obtain ⟨c1, e1⟩ : ∃ c : Nat, (c : Int) = 2 + cellAt ns 1 % 19 := ⟨(2 + cellAt ns 1 % 19).toNat, by omega⟩
  have cell : ∀ {s : List Sl} {k : Nat}, s[0]? = some (some (.scr ns)) → Ev K (tCall (spOf K T_qcell_at) [] E0 (tCons (tVar 0) (tCons (tC (.int (k : Int))) tNil))) s [] (di (cellAt ns k)) [] := fun h => .call (ea_cons (.var h) (ea_cons .int ea_nil)) ⟨ns, _, rfl, rfl⟩
  let N : Nat → Nat := fun t => if t = 0 then c0 else c1
  let P : Nat → Dy := fun t => if t = 0 then ⟨0, 1, 2, 7, c0, [], [], []⟩ else ⟨3, 4, 5, 8, c1, [], [], []⟩
  let M0 : List Cell := [.ins X.Day (dayFs c0 1 2), .lst [], .lst [], .ins X.Day (dayFs c1 4 5), .lst [], .lst [], .lst [.cel 0, .cel 3], .lst [], .lst [], .lst [.cel 7, .cel 8], .lst []]
  have S : St10 X.Day M0 6 9 10 N P [] 0 := by
    refine ⟨rfl, rfl, rfl, by decide, by decide, fun t ht => ?_, fun t ht => ?_, ?_, fun t ht => ?_, fun t ht => ?_, fun l hl => nomatch hl⟩
    · rcases (by omega : t = 0 ∨ t = 1) with rfl | rfl
      · exact ⟨⟨rfl, rfl, rfl, rfl, Nat.zero_le _, by show 1 ≤ c0; omega, by show c0 ≤ 20; omega, fun d hd => (nomatch hd), fun n hn => absurd hn (Nat.not_lt_zero n)⟩, ⟨rfl, rfl, fun n hn => absurd hn (Nat.not_lt_zero n)⟩, by show List.Nodup [0, 1, 2, 7]; decide⟩
      · exact ⟨⟨rfl, rfl, rfl, rfl, Nat.zero_le _, by show 1 ≤ c1; omega, by show c1 ≤ 20; omega, fun d hd => (nomatch hd), fun n hn => absurd hn (Nat.not_lt_zero n)⟩, ⟨rfl, rfl, fun n hn => absurd hn (Nat.not_lt_zero n)⟩, by show List.Nodup [3, 4, 5, 8]; decide⟩
    · rcases (by omega : t = 0 ∨ t = 1) with rfl | rfl
      · show ∀ i ∈ [0, 1, 2, 7], _
        decide
      · show ∀ i ∈ [3, 4, 5, 8], _
        decide
    · show ∀ i ∈ [0, 1, 2, 7], i ∉ [3, 4, 5, 8]
      decide
    · rcases (by omega : t = 0 ∨ t = 1) with rfl | rfl <;> exact Nat.le_refl 0
    · rcases (by omega : t = 0 ∨ t = 1) with rfl | rfl <;> rfl
  have hN : ∀ t, t < 2 → 2 ≤ N t := fun t ht => by
    rcases (by omega : t = 0 ∨ t = 1) with rfl | rfl
    · show 2 ≤ c0
      omega
    · show 2 ≤ c1
      omega
  have hcut : (cutW ns (some 2) (some 42)).length ≤ 63 := by
    unfold cutW
    rw [List.length_take, List.length_drop]
    omega
  obtain ⟨M', P', hs', S', hh', lp⟩ := loop10 (K := K) (E := E) (X := X) (ns := ns) (D := 6) (R := 9) (H := 10) (N := N) (cutW ns (some 2) (some 42)) M0 P [] 0 none none none none none none none S (by omega) (by decide) hN
  refine .dat (N0 := M') ?_
  refine .st (w := dl [.int (N 0 : Int), .int (N 1 : Int)]) (.is (w := dl [.int (2 + cellAt ns 0 % 5), .int (2 + cellAt ns 1 % 19)]) (.lst (ed_cons (.add .int (.mod (cell (k := 0) rfl) .int (by decide))) (ed_cons (.add .int (.mod (cell (k := 1) rfl) .int (by decide))) ea_nil)) (Nat.le_of_ble_eq_true rfl)) ?_) ?_
  · show dl [.int (2 + cellAt ns 0 % 5), .int (2 + cellAt ns 1 % 19)] = dl [.int (c0 : Int), .int (c1 : Int)]
    rw [e0, e1]
  refine .seqIte (b := false) (.is (.and (.test (.eq (.mod (.div (cell (k := 0) rfl) .int (by decide)) .int (by decide)) .int (.int _ _))) fun _ => .not (.val (.call (w := db true) (ea_cons (.div (cell (k := 1) rfl) .int (by decide)) ea_nil) ⟨_, rfl, rfl⟩))) (by simp)) (fun z => nomatch z) fun _ => .seqN ?_
  have d0 : Ev K (tMake X.Day (spOf K (T_Day_init X)) [] E0 (tCons (tOp (rIx K) (tVar 1) (tC (.int 0))) tNil)) [some (.scr ns), some (dl [.int (N 0 : Int), .int (N 1 : Int)]), none, none, none, none, none, none, none, none, none, none, none] [] (.cel 0) [.ins X.Day (dayFs c0 1 2), .lst [], .lst []] :=
    .make (M1 := []) (ea_cons (cnt_ev (N := N) (t := 0) (.var rfl) .int (by omega)) ea_nil) ⟨0, _, rfl, rfl, .inl ⟨c0, by omega, by omega, rfl, rfl⟩⟩
  have d1 : Ev K (tMake X.Day (spOf K (T_Day_init X)) [] E0 (tCons (tOp (rIx K) (tVar 1) (tC (.int 1))) tNil)) [some (.scr ns), some (dl [.int (N 0 : Int), .int (N 1 : Int)]), none, none, none, none, none, none, none, none, none, none, none] [.ins X.Day (dayFs c0 1 2), .lst [], .lst []] (.cel 3) [.ins X.Day (dayFs c0 1 2), .lst [], .lst [], .ins X.Day (dayFs c1 4 5), .lst [], .lst []] :=
    .make (M1 := [.ins X.Day (dayFs c0 1 2), .lst [], .lst []]) (ea_cons (cnt_ev (N := N) (t := 1) (.var rfl) .int (by omega)) ea_nil) ⟨3, _, rfl, rfl, .inl ⟨c1, by omega, by omega, rfl, rfl⟩⟩
  refine .seq (s1 := [some (.scr ns), some (dl [.int (N 0 : Int), .int (N 1 : Int)]), some (.cel 6), none, none, none, none, none, none, none, none, none, none]) (M1 := [.ins X.Day (dayFs c0 1 2), .lst [], .lst [], .ins X.Day (dayFs c1 4 5), .lst [], .lst [], .lst [.cel 0, .cel 3]]) (.asg (.lstC (ea_cons d0 (ea_cons d1 ea_nil)) (by decide))) ?_
  refine .seq (s1 := [some (.scr ns), some (dl [.int (N 0 : Int), .int (N 1 : Int)]), some (.cel 6), some (.cel 9), none, none, none, none, none, none, none, none, none]) (M1 := [.ins X.Day (dayFs c0 1 2), .lst [], .lst [], .ins X.Day (dayFs c1 4 5), .lst [], .lst [], .lst [.cel 0, .cel 3], .lst [], .lst [], .lst [.cel 7, .cel 8]]) (.asg (.lstC (ea_cons (.lstC ea_nil (by decide)) (ea_cons (.lstC ea_nil (by decide)) ea_nil)) (by simp))) ?_
  refine .seq (s1 := [some (.scr ns), some (dl [.int (N 0 : Int), .int (N 1 : Int)]), some (.cel 6), some (.cel 9), some (.cel 10), none, none, none, none, none, none, none, none]) (M1 := M0) (.asg (.lstC ea_nil (by decide))) ?_
  refine .seq (s1 := sl10 ns N 6 9 10 none none none none none none none) (M1 := M') (.forL (ds := (cutW ns (some 2) (some 42)).map .int) (.is (.sl (ds := ns.map .int) (lo := some 2) (hi := some 42) (.var rfl) (eo_some .int) (eo_some .int) ?_) ?_) ?_) (last10 S' (by omega))
  · rw [List.map_map]
    exact .scr ns
  · unfold cutW
    rw [List.length_map, List.map_take, List.map_drop]
  · rw [List.map_map]
    exact lp
end
end Bk

set_option Elab.async false
set_option linter.all false
set_option maxRecDepth 100000
set_option maxHeartbeats 8000000
namespace Fk10
open PySem L2 Vx Bk HotP
def top (i : Nat) : Stmt := PySem.Challenge.pw_clearday_k10_a_day_kept.main.body.getD i (.Pass ⟨0, 0, 0, 0⟩)
abbrev s_is_whole : Stmt := top 15
theorem sc_is_whole : FnScope ["thing"] ["thing"] (defScope s_is_whole) := ⟨rfl, rfl, rfl, by decide +kernel, rfl, by decide +kernel, by decide +kernel⟩
abbrev s_within : Stmt := top 16
theorem sc_within : FnScope ["thing", "low", "high"] ["thing", "low", "high"] (defScope s_within) := ⟨rfl, rfl, rfl, by decide +kernel, rfl, by decide +kernel, by decide +kernel⟩
abbrev s_need_count : Stmt := top 17
theorem sc_need_count : FnScope ["count"] ["count"] (defScope s_need_count) := ⟨rfl, rfl, rfl, by decide +kernel, rfl, by decide +kernel, by decide +kernel⟩
abbrev s_is_debt : Stmt := top 18
theorem sc_is_debt : FnScope ["count", "thing"] ["count", "thing"] (defScope s_is_debt) := ⟨rfl, rfl, rfl, by decide +kernel, rfl, by decide +kernel, by decide +kernel⟩
abbrev s_balances : Stmt := top 19
theorem sc_balances : FnScope ["count", "debts", "found", "debtor", "creditor", "amount"] ["count", "debts"] (defScope s_balances) := ⟨rfl, rfl, rfl, by decide +kernel, rfl, by decide +kernel, by decide +kernel⟩
abbrev s_Day_init : Stmt := inClass (top 21) 0
theorem sc_Day_init : FnScope ["self", "count"] ["self", "count"] (defScope s_Day_init) := ⟨rfl, rfl, rfl, by decide +kernel, rfl, by decide +kernel, by decide +kernel⟩
abbrev s_Day_owe : Stmt := inClass (top 21) 1
theorem sc_Day_owe : FnScope ["self", "debtor", "creditor", "amount", "debt"] ["self", "debtor", "creditor", "amount"] (defScope s_Day_owe) := ⟨rfl, rfl, rfl, by decide +kernel, rfl, by decide +kernel, by decide +kernel⟩
abbrev s_Day_rest : Stmt := inClass (top 21) 2
theorem sc_Day_rest : FnScope ["self", "number"] ["self", "number"] (defScope s_Day_rest) := ⟨rfl, rfl, rfl, by decide +kernel, rfl, by decide +kernel, by decide +kernel⟩
abbrev s_Day_pay : Stmt := inClass (top 21) 3
theorem sc_Day_pay : FnScope ["self", "number", "amount", "rest"] ["self", "number", "amount"] (defScope s_Day_pay) := ⟨rfl, rfl, rfl, by decide +kernel, rfl, by decide +kernel, by decide +kernel⟩
abbrev s_Day_standing : Stmt := inClass (top 21) 4
theorem sc_Day_standing : FnScope ["self", "found", "number"] ["self"] (defScope s_Day_standing) := ⟨rfl, rfl, rfl, by decide +kernel, rfl, by decide +kernel, by decide +kernel⟩
abbrev s_Day_balance : Stmt := inClass (top 21) 5
theorem sc_Day_balance : FnScope ["self", "house", "row"] ["self", "house"] (defScope s_Day_balance) := ⟨rfl, rfl, rfl, by decide +kernel, rfl, by decide +kernel, by decide +kernel⟩
abbrev s_qcell_at : Stmt := top 23
theorem sc_qcell_at : FnScope ["_law_script", "_law_k"] ["_law_script", "_law_k"] (defScope s_qcell_at) := ⟨rfl, rfl, rfl, by decide +kernel, rfl, by decide +kernel, by decide +kernel⟩
abbrev s_qwhole : Stmt := top 24
theorem sc_qwhole : FnScope ["_law_found"] ["_law_found"] (defScope s_qwhole) := ⟨rfl, rfl, rfl, by decide +kernel, rfl, by decide +kernel, by decide +kernel⟩
abbrev s_qkind : Stmt := top 25
theorem sc_qkind : FnScope ["_law_error", "_law_words"] ["_law_error"] (defScope s_qkind) := ⟨rfl, rfl, rfl, by decide +kernel, rfl, by decide +kernel, by decide +kernel⟩
abbrev s_qowed : Stmt := top 26
theorem sc_qowed : FnScope ["_law_day", "_law_rows", "_law_count", "_law_cell", "_law_debtor", "_law_creditor", "_law_amount", "_law_due", "_law_far", "_law_odd", "_law_found", "_law_error"] ["_law_day", "_law_rows", "_law_count", "_law_cell"] (defScope s_qowed) := ⟨rfl, rfl, rfl, by decide +kernel, rfl, by decide +kernel, by decide +kernel⟩
abbrev s_qpaid : Stmt := top 27
theorem sc_qpaid : FnScope ["_law_day", "_law_rows", "_law_cell", "_law_number", "_law_much", "_law_amount", "_law_due", "_law_found", "_law_error"] ["_law_day", "_law_rows", "_law_cell"] (defScope s_qpaid) := ⟨rfl, rfl, rfl, by decide +kernel, rfl, by decide +kernel, by decide +kernel⟩
abbrev s_qno_house : Stmt := top 28
theorem sc_qno_house : FnScope ["_law_day", "_law_house", "_law_error"] ["_law_day", "_law_house"] (defScope s_qno_house) := ⟨rfl, rfl, rfl, by decide +kernel, rfl, by decide +kernel, by decide +kernel⟩
abbrev s_qno_number : Stmt := top 29
theorem sc_qno_number : FnScope ["_law_day", "_law_number", "_law_error"] ["_law_day", "_law_number"] (defScope s_qno_number) := ⟨rfl, rfl, rfl, by decide +kernel, rfl, by decide +kernel, by decide +kernel⟩
abbrev s_qtold : Stmt := top 30
theorem sc_qtold : FnScope ["_law_day", "_law_rows", "_law_count", "_law_way", "_law_found", "_law_row", "_law_due", "_law_sums", "_law_house", "_law_k", "_law_one", "_law_part"] ["_law_day", "_law_rows", "_law_count", "_law_way"] (defScope s_qtold) := ⟨rfl, rfl, rfl, by decide +kernel, rfl, by decide +kernel, by decide +kernel⟩
abbrev s_qstands : Stmt := top 31
theorem sc_qstands : FnScope ["_law_day", "_law_rows", "_law_count", "_law_cell", "_law_ways", "_law_way"] ["_law_day", "_law_rows", "_law_count", "_law_cell"] (defScope s_qstands) := ⟨rfl, rfl, rfl, by decide +kernel, rfl, by decide +kernel, by decide +kernel⟩
abbrev s_qno_count : Stmt := top 32
theorem sc_qno_count : FnScope ["_law_cell", "_law_error"] ["_law_cell"] (defScope s_qno_count) := ⟨rfl, rfl, rfl, by decide +kernel, rfl, by decide +kernel, by decide +kernel⟩
abbrev s_law : Stmt := top 33
theorem sc_law : FnScope ["_law_script", "_law_counts", "_law_days", "_law_rows", "_law_held", "_law_cell", "_law_at", "_law_more", "_law_good", "_law_told_here", "_law_house", "_law_number", "_law_pair"] ["_law_script"] (defScope s_law) := ⟨rfl, rfl, rfl, by decide +kernel, rfl, by decide +kernel, by decide +kernel⟩
structure Exc (K : PySem.W.Frag) (mg : Str → Option Value) (z : Str) (C : Addr) : Prop where
  x : PySem.W.excIn K C [.type "ValueError", .type "Exception", .type "BaseException", .type "object"] "ValueError.__new__" = true
  g : mg z = some (.ref C)
  k : PySem.W.keepIn K (.ref C) = true
  b : PySem.W.subIn K (.ref C) (.type "BaseException") = some true
  t : PySem.W.typeIn K (.ref C) = some (.type "type")
structure Txt (K : PySem.W.Frag) (mg : Str → Option Value) (X : Xs) (t_MOST t_MOST_HOUSES : Tok) : Prop where
  n_ValueError : mg "ValueError" = none
  n_all : mg "all" = none
  n_bool : mg "bool" = none
  n_int : mg "int" = none
  n_isinstance : mg "isinstance" = none
  n_len : mg "len" = none
  n_list : mg "list" = none
  n_range : mg "range" = none
  n_tuple : mg "tuple" = none
  g_MOST : mg "MOST" = some (.int 1000000000 t_MOST)
  g_MOST_HOUSES : mg "MOST_HOUSES" = some (.int 20 t_MOST_HOUSES)
  x_BadAmount : Exc K mg "BadAmount" X.BadAmount
  x_BadCount : Exc K mg "BadCount" X.BadCount
  x_BadDebt : Exc K mg "BadDebt" X.BadDebt
  x_NoDebt : Exc K mg "NoDebt" X.NoDebt
  x_NoHouse : Exc K mg "NoHouse" X.NoHouse
  k_BadAmount : mg "BadAmount" = some (.ref X.BadAmount)
  k_BadCount : mg "BadCount" = some (.ref X.BadCount)
  k_BadCut : mg "BadCut" = some (.ref X.BadCut)
  k_BadDebt : mg "BadDebt" = some (.ref X.BadDebt)
  k_BadPrices : mg "BadPrices" = some (.ref X.BadPrices)
  k_Day : mg "Day" = some (.ref X.Day)
  k_DebtError : mg "DebtError" = some (.ref X.DebtError)
  k_NoDebt : mg "NoDebt" = some (.ref X.NoDebt)
  k_NoHouse : mg "NoHouse" = some (.ref X.NoHouse)
  k_NotBest : mg "NotBest" = some (.ref X.NotBest)
  k_Uneven : mg "Uneven" = some (.ref X.Uneven)
  e_BadAmount : KitOk K X X.BadAmount 8
  e_BadCount : KitOk K X X.BadCount 0
  e_BadDebt : KitOk K X X.BadDebt 1
  e_NoDebt : KitOk K X X.NoDebt 6
  e_NoHouse : KitOk K X X.NoHouse 7
  day : DayK K X.Day
structure MetAt (K : PySem.W.Frag) (x q : Str) (st : Stmt) (ps : List Str) (f : Addr) (fd : FuncData) : Prop where
  F : Fun K x q st f fd
  b : Binds K fd ps []
structure CalM (P : Program) (wd : World) (K : PySem.W.Frag) (mg : Str → Option Value) (base : Heap) (CX : CXT) (lv : Nat) (C : Addr) (m : Str) (ps : List Str) (sp : Sp) : Prop where
  ex : ∃ f fd, FnOk P wd K mg base CX lv f fd ps sp ∧ Meth K C m f ∧ Binds K fd ps []
structure CalK (P : Program) (wd : World) (K : PySem.W.Frag) (mg : Str → Option Value) (base : Heap) (CX : CXT) (lv : Nat) (C : Addr) (ps : List Str) (sp : Sp) : Prop where
  ex : ∃ f fd, FnOk P wd K mg base CX lv f fd ps sp ∧ Mk K C f ∧ Binds K fd ps []
section
variable {P : Program} {wd : World} {K : PySem.W.Frag} {mg : Str → Option Value} {base : Heap} {X : Xs} {t_MOST t_MOST_HOUSES : Tok}
theorem ok_is_whole (T : Txt K mg X t_MOST t_MOST_HOUSES) {f : Addr} {fd : FuncData} (D : DefAt K mg "is_whole" s_is_whole ["thing"] f fd) :
    FnOk P wd K mg base CX0 1 f fd ["thing"] (spOf K T_is_whole) := by
  refine fn_ok D.F sc_is_whole (fun M ws o h => ?_) (fun cdv A outer s H E hr => ⟨_, (pss_one (ps_ret (pe_and (pe_callB call_isi (by rfl) T.n_isinstance b_isinstance (pa_cons (pv 0) (pa_cons (pe_bltn (v := .ty "int") (u := .type "int") (by rfl) T.n_int b_int rfl) pa_nil))) (pe_one (pe_not (pe_callB call_isi (by rfl) T.n_isinstance b_isinstance (pa_cons (pv 0) (pa_cons (pe_bltn (v := .ty "bool") (u := .type "bool") (by rfl) T.n_bool b_bool rfl) pa_nil)))))))), fun M ws o h => big_is_whole h⟩)
  first | (obtain ⟨rfl, _⟩ := h; rfl; done) | (obtain ⟨_, rfl, _⟩ := h; rfl; done) | (obtain ⟨_, _, rfl, _⟩ := h; rfl; done) | (obtain ⟨_, _, _, rfl, _⟩ := h; rfl; done) | (obtain ⟨_, _, _, _, rfl, _⟩ := h; rfl; done) | (obtain ⟨_, _, _, _, _, rfl, _⟩ := h; rfl; done) | (obtain ⟨_, _, _, _, _, _, rfl, _⟩ := h; rfl; done) | (obtain ⟨_, _, _, _, _, _, _, rfl, _⟩ := h; rfl; done) | (obtain ⟨_, _, _, _, _, _, _, _, rfl, _⟩ := h; rfl; done) | (obtain ⟨_, _, _, _, _, _, _, _, _, rfl, _⟩ := h; rfl; done) | (obtain ⟨_, _, _, _, _, _, _, _, _, _, rfl, _⟩ := h; rfl; done) | (obtain ⟨_, _, _, _, _, _, _, _, _, _, _, rfl, _⟩ := h; rfl; done) | (rcases h with h | h <;> (first | (obtain ⟨rfl, _⟩ := h; rfl; done) | (obtain ⟨_, rfl, _⟩ := h; rfl; done) | (obtain ⟨_, _, rfl, _⟩ := h; rfl; done) | (obtain ⟨_, _, _, rfl, _⟩ := h; rfl; done) | (obtain ⟨_, _, _, _, rfl, _⟩ := h; rfl; done) | (obtain ⟨_, _, _, _, _, rfl, _⟩ := h; rfl; done) | (obtain ⟨_, _, _, _, _, _, rfl, _⟩ := h; rfl; done) | (obtain ⟨_, _, _, _, _, _, _, rfl, _⟩ := h; rfl; done) | (obtain ⟨_, _, _, _, _, _, _, _, rfl, _⟩ := h; rfl; done) | (obtain ⟨_, _, _, _, _, _, _, _, _, rfl, _⟩ := h; rfl; done) | (obtain ⟨_, _, _, _, _, _, _, _, _, _, rfl, _⟩ := h; rfl; done) | (obtain ⟨_, _, _, _, _, _, _, _, _, _, _, rfl, _⟩ := h; rfl; done)))
theorem ok_within (T : Txt K mg X t_MOST t_MOST_HOUSES) {f : Addr} {fd : FuncData} (D : DefAt K mg "within" s_within ["thing", "low", "high"] f fd)
    (c_is_whole : Cal P wd K mg base CX0 1 "is_whole" ["thing"] (spOf K T_is_whole)) :
    FnOk P wd K mg base CX0 2 f fd ["thing", "low", "high"] (spOf K T_within) := by
  obtain ⟨f_is_whole, fd_is_whole, G_is_whole, m_is_whole, k_is_whole, b_is_whole⟩ := c_is_whole.ex
  refine fn_ok D.F sc_within (fun M ws o h => ?_) (fun cdv A outer s H E hr => ⟨_, (pss_one (ps_ret (pe_and (pe_call G_is_whole (hr.mono (by decide)) rfl m_is_whole k_is_whole b_is_whole .nil pass0 (pa_cons (pv 0) pa_nil)) (pe_one (pe_chain op_le op_le (pv 1) (pv 0) (pv 2)))))), fun M ws o h => big_within h⟩)
  first | (obtain ⟨rfl, _⟩ := h; rfl; done) | (obtain ⟨_, rfl, _⟩ := h; rfl; done) | (obtain ⟨_, _, rfl, _⟩ := h; rfl; done) | (obtain ⟨_, _, _, rfl, _⟩ := h; rfl; done) | (obtain ⟨_, _, _, _, rfl, _⟩ := h; rfl; done) | (obtain ⟨_, _, _, _, _, rfl, _⟩ := h; rfl; done) | (obtain ⟨_, _, _, _, _, _, rfl, _⟩ := h; rfl; done) | (obtain ⟨_, _, _, _, _, _, _, rfl, _⟩ := h; rfl; done) | (obtain ⟨_, _, _, _, _, _, _, _, rfl, _⟩ := h; rfl; done) | (obtain ⟨_, _, _, _, _, _, _, _, _, rfl, _⟩ := h; rfl; done) | (obtain ⟨_, _, _, _, _, _, _, _, _, _, rfl, _⟩ := h; rfl; done) | (obtain ⟨_, _, _, _, _, _, _, _, _, _, _, rfl, _⟩ := h; rfl; done) | (rcases h with h | h <;> (first | (obtain ⟨rfl, _⟩ := h; rfl; done) | (obtain ⟨_, rfl, _⟩ := h; rfl; done) | (obtain ⟨_, _, rfl, _⟩ := h; rfl; done) | (obtain ⟨_, _, _, rfl, _⟩ := h; rfl; done) | (obtain ⟨_, _, _, _, rfl, _⟩ := h; rfl; done) | (obtain ⟨_, _, _, _, _, rfl, _⟩ := h; rfl; done) | (obtain ⟨_, _, _, _, _, _, rfl, _⟩ := h; rfl; done) | (obtain ⟨_, _, _, _, _, _, _, rfl, _⟩ := h; rfl; done) | (obtain ⟨_, _, _, _, _, _, _, _, rfl, _⟩ := h; rfl; done) | (obtain ⟨_, _, _, _, _, _, _, _, _, rfl, _⟩ := h; rfl; done) | (obtain ⟨_, _, _, _, _, _, _, _, _, _, rfl, _⟩ := h; rfl; done) | (obtain ⟨_, _, _, _, _, _, _, _, _, _, _, rfl, _⟩ := h; rfl; done)))
theorem ok_need_count (T : Txt K mg X t_MOST t_MOST_HOUSES) {f : Addr} {fd : FuncData} (D : DefAt K mg "need_count" s_need_count ["count"] f fd)
    (c_within : Cal P wd K mg base CX0 2 "within" ["thing", "low", "high"] (spOf K T_within)) :
    FnOk P wd K mg base (L2N.CX P wd) 3 f fd ["count"] (spOf K (T_need_count X)) := by
  obtain ⟨f_within, fd_within, G_within, m_within, k_within, b_within⟩ := c_within.ex
  refine fn_okX D.F sc_need_count (fun M ws o h => ?_) (fun cdv A outer s H E hr => ⟨_, (pss_one (ps_if (pt_not (pt_val (pe_call G_within (hr.mono (by decide)) rfl m_within k_within b_within .nil pass0 (pa_cons (pv 0) (pa_cons pe_int (pa_cons (pe_glob (v := .int 20) rfl T.g_MOST_HOUSES ⟨_, rfl⟩) pa_nil)))))) (pss_one (L2N.ps_raise rfl (L2N.takes_of rfl rfl rfl rfl) (L2N.pmk_own PySem.F.excBase_ValueError T.x_BadCount.x T.x_BadCount.g T.x_BadCount.k (raises_own T.x_BadCount.b T.x_BadCount.t) rfl))) pss_nil)), fun M ws o h => big_need_count h⟩)
  first | (obtain ⟨rfl, _⟩ := h; rfl; done) | (obtain ⟨_, rfl, _⟩ := h; rfl; done) | (obtain ⟨_, _, rfl, _⟩ := h; rfl; done) | (obtain ⟨_, _, _, rfl, _⟩ := h; rfl; done) | (obtain ⟨_, _, _, _, rfl, _⟩ := h; rfl; done) | (obtain ⟨_, _, _, _, _, rfl, _⟩ := h; rfl; done) | (obtain ⟨_, _, _, _, _, _, rfl, _⟩ := h; rfl; done) | (obtain ⟨_, _, _, _, _, _, _, rfl, _⟩ := h; rfl; done) | (obtain ⟨_, _, _, _, _, _, _, _, rfl, _⟩ := h; rfl; done) | (obtain ⟨_, _, _, _, _, _, _, _, _, rfl, _⟩ := h; rfl; done) | (obtain ⟨_, _, _, _, _, _, _, _, _, _, rfl, _⟩ := h; rfl; done) | (obtain ⟨_, _, _, _, _, _, _, _, _, _, _, rfl, _⟩ := h; rfl; done) | (rcases h with h | h <;> (first | (obtain ⟨rfl, _⟩ := h; rfl; done) | (obtain ⟨_, rfl, _⟩ := h; rfl; done) | (obtain ⟨_, _, rfl, _⟩ := h; rfl; done) | (obtain ⟨_, _, _, rfl, _⟩ := h; rfl; done) | (obtain ⟨_, _, _, _, rfl, _⟩ := h; rfl; done) | (obtain ⟨_, _, _, _, _, rfl, _⟩ := h; rfl; done) | (obtain ⟨_, _, _, _, _, _, rfl, _⟩ := h; rfl; done) | (obtain ⟨_, _, _, _, _, _, _, rfl, _⟩ := h; rfl; done) | (obtain ⟨_, _, _, _, _, _, _, _, rfl, _⟩ := h; rfl; done) | (obtain ⟨_, _, _, _, _, _, _, _, _, rfl, _⟩ := h; rfl; done) | (obtain ⟨_, _, _, _, _, _, _, _, _, _, rfl, _⟩ := h; rfl; done) | (obtain ⟨_, _, _, _, _, _, _, _, _, _, _, rfl, _⟩ := h; rfl; done)))
theorem ok_is_debt (T : Txt K mg X t_MOST t_MOST_HOUSES) {f : Addr} {fd : FuncData} (D : DefAt K mg "is_debt" s_is_debt ["count", "thing"] f fd)
    (c_within : Cal P wd K mg base CX0 2 "within" ["thing", "low", "high"] (spOf K T_within)) :
    FnOk P wd K mg base CX0 3 f fd ["count", "thing"] (spOf K T_is_debt) := by
  obtain ⟨f_within, fd_within, G_within, m_within, k_within, b_within⟩ := c_within.ex
  refine fn_ok D.F sc_is_debt (fun M ws o h => ?_) (fun cdv A outer s H E hr => ⟨_, (pss_cons (ps_if (PW.pt (pw_or (pt_not (pt_val (pe_callB call_isi (by rfl) T.n_isinstance b_isinstance (pa_cons (pv 1) (pa_cons (pe_bltn (v := .ty "tuple") (u := .type "tuple") (by rfl) T.n_tuple b_tuple rfl) pa_nil))))) (pw_or1 (pt_cmpR op_ne (pe_callB c_len (by rfl) T.n_len b_len (pa_cons (pv 1) pa_nil)) pe_int (nomark _))))) (pss_one (ps_ret pe_bl)) pss_nil)
      (pss_cons (ps_if (PW.pt (pw_or (pt_not (pt_val (pe_call G_within (hr.mono (by decide)) rfl m_within k_within b_within .nil pass0 (pa_cons (pe_ix ix_seq (pv 1) pe_int (fun _ _ => rfl)) (pa_cons pe_int (pa_cons (pe_op op_sub (pv 0) pe_int) pa_nil)))))) (pw_or1 (pt_not (pt_val (pe_call G_within (hr.mono (by decide)) rfl m_within k_within b_within .nil pass0 (pa_cons (pe_ix ix_seq (pv 1) pe_int (fun _ _ => rfl)) (pa_cons pe_int (pa_cons (pe_op op_sub (pv 0) pe_int) pa_nil))))))))) (pss_one (ps_ret pe_bl)) pss_nil)
      (pss_one (ps_ret (pe_and (pe_cmpR op_ne (pe_ix ix_seq (pv 1) pe_int (fun _ _ => rfl)) (pe_ix ix_seq (pv 1) pe_int (fun _ _ => rfl)) (nomark _)) (pe_one (pe_call G_within (hr.mono (by decide)) rfl m_within k_within b_within .nil pass0 (pa_cons (pe_ix ix_seq (pv 1) pe_int (fun _ _ => rfl)) (pa_cons pe_int (pa_cons (pe_glob (v := .int 1000000000) rfl T.g_MOST ⟨_, rfl⟩) pa_nil)))))))))), fun M ws o h => big_is_debt h⟩)
  first | (obtain ⟨rfl, _⟩ := h; rfl; done) | (obtain ⟨_, rfl, _⟩ := h; rfl; done) | (obtain ⟨_, _, rfl, _⟩ := h; rfl; done) | (obtain ⟨_, _, _, rfl, _⟩ := h; rfl; done) | (obtain ⟨_, _, _, _, rfl, _⟩ := h; rfl; done) | (obtain ⟨_, _, _, _, _, rfl, _⟩ := h; rfl; done) | (obtain ⟨_, _, _, _, _, _, rfl, _⟩ := h; rfl; done) | (obtain ⟨_, _, _, _, _, _, _, rfl, _⟩ := h; rfl; done) | (obtain ⟨_, _, _, _, _, _, _, _, rfl, _⟩ := h; rfl; done) | (obtain ⟨_, _, _, _, _, _, _, _, _, rfl, _⟩ := h; rfl; done) | (obtain ⟨_, _, _, _, _, _, _, _, _, _, rfl, _⟩ := h; rfl; done) | (obtain ⟨_, _, _, _, _, _, _, _, _, _, _, rfl, _⟩ := h; rfl; done) | (rcases h with h | h <;> (first | (obtain ⟨rfl, _⟩ := h; rfl; done) | (obtain ⟨_, rfl, _⟩ := h; rfl; done) | (obtain ⟨_, _, rfl, _⟩ := h; rfl; done) | (obtain ⟨_, _, _, rfl, _⟩ := h; rfl; done) | (obtain ⟨_, _, _, _, rfl, _⟩ := h; rfl; done) | (obtain ⟨_, _, _, _, _, rfl, _⟩ := h; rfl; done) | (obtain ⟨_, _, _, _, _, _, rfl, _⟩ := h; rfl; done) | (obtain ⟨_, _, _, _, _, _, _, rfl, _⟩ := h; rfl; done) | (obtain ⟨_, _, _, _, _, _, _, _, rfl, _⟩ := h; rfl; done) | (obtain ⟨_, _, _, _, _, _, _, _, _, rfl, _⟩ := h; rfl; done) | (obtain ⟨_, _, _, _, _, _, _, _, _, _, rfl, _⟩ := h; rfl; done) | (obtain ⟨_, _, _, _, _, _, _, _, _, _, _, rfl, _⟩ := h; rfl; done)))
theorem ok_balances (T : Txt K mg X t_MOST t_MOST_HOUSES) {f : Addr} {fd : FuncData} (D : DefAt K mg "balances" s_balances ["count", "debts"] f fd) :
    FnOk P wd K mg base CX0 1 f fd ["count", "debts"] (spOf K T_balances) := by
  refine fn_ok D.F sc_balances (fun M ws o h => ?_) (fun cdv A outer s H E hr => ⟨_, (pss_cons (ps_set (i := 2) sc_balances.nd rfl (Or.inl rfl) (pe_op op_rep (pe_lst (pa_cons pe_int pa_nil)) (pv 0)))
      (pss_cons (ps_for PassesOwn.never rfl (pi_list (pv 1)) (pg_tup rfl (pgs_cons (pg_name (i := 3) sc_balances.nd rfl (Or.inl rfl)) (pgs_cons (pg_name (i := 4) sc_balances.nd rfl (Or.inl rfl)) (pgs_cons (pg_name (i := 5) sc_balances.nd rfl (Or.inl rfl)) pgs_nil)))) (pss_cons (ps_asg (pe_op op_sub (pe_ix ix_seq (pv 2) (pv 3) (fun _ _ => rfl)) (pv 5)) (pg_sub (pv 2) (pv 3) set_list))
      (pss_one (ps_asg (pe_op op_add (pe_ix ix_seq (pv 2) (pv 4) (fun _ _ => rfl)) (pv 5)) (pg_sub (pv 2) (pv 4) set_list)))))
      (pss_one (ps_ret (pv 2))))), fun M ws o h => big_balances h⟩)
  first | (obtain ⟨rfl, _⟩ := h; rfl; done) | (obtain ⟨_, rfl, _⟩ := h; rfl; done) | (obtain ⟨_, _, rfl, _⟩ := h; rfl; done) | (obtain ⟨_, _, _, rfl, _⟩ := h; rfl; done) | (obtain ⟨_, _, _, _, rfl, _⟩ := h; rfl; done) | (obtain ⟨_, _, _, _, _, rfl, _⟩ := h; rfl; done) | (obtain ⟨_, _, _, _, _, _, rfl, _⟩ := h; rfl; done) | (obtain ⟨_, _, _, _, _, _, _, rfl, _⟩ := h; rfl; done) | (obtain ⟨_, _, _, _, _, _, _, _, rfl, _⟩ := h; rfl; done) | (obtain ⟨_, _, _, _, _, _, _, _, _, rfl, _⟩ := h; rfl; done) | (obtain ⟨_, _, _, _, _, _, _, _, _, _, rfl, _⟩ := h; rfl; done) | (obtain ⟨_, _, _, _, _, _, _, _, _, _, _, rfl, _⟩ := h; rfl; done) | (rcases h with h | h <;> (first | (obtain ⟨rfl, _⟩ := h; rfl; done) | (obtain ⟨_, rfl, _⟩ := h; rfl; done) | (obtain ⟨_, _, rfl, _⟩ := h; rfl; done) | (obtain ⟨_, _, _, rfl, _⟩ := h; rfl; done) | (obtain ⟨_, _, _, _, rfl, _⟩ := h; rfl; done) | (obtain ⟨_, _, _, _, _, rfl, _⟩ := h; rfl; done) | (obtain ⟨_, _, _, _, _, _, rfl, _⟩ := h; rfl; done) | (obtain ⟨_, _, _, _, _, _, _, rfl, _⟩ := h; rfl; done) | (obtain ⟨_, _, _, _, _, _, _, _, rfl, _⟩ := h; rfl; done) | (obtain ⟨_, _, _, _, _, _, _, _, _, rfl, _⟩ := h; rfl; done) | (obtain ⟨_, _, _, _, _, _, _, _, _, _, rfl, _⟩ := h; rfl; done) | (obtain ⟨_, _, _, _, _, _, _, _, _, _, _, rfl, _⟩ := h; rfl; done)))
theorem ok_Day_init (T : Txt K mg X t_MOST t_MOST_HOUSES) {f : Addr} {fd : FuncData} (D : MetAt K "__init__" "Day.__init__" s_Day_init ["self", "count"] f fd)
    (c_need_count : Cal P wd K mg base (L2N.CX P wd) 3 "need_count" ["count"] (spOf K (T_need_count X))) :
    FnOk P wd K mg base (L2N.CX P wd) 4 f fd ["self", "count"] (spOf K (T_Day_init X)) := by
  obtain ⟨f_need_count, fd_need_count, G_need_count, m_need_count, k_need_count, b_need_count⟩ := c_need_count.ex
  refine fn_okX D.F sc_Day_init (fun M ws o h => ?_) (fun cdv A outer s H E hr => ⟨_, (pss_cons (ps_expr (pe_call G_need_count (hr.mono (by decide)) rfl m_need_count k_need_count b_need_count .nil (L2N.passes_call (L2N.takes_of rfl rfl rfl rfl) (fun _ _ _ _ h => h)) (pa_cons (pv 1) pa_nil)))
      (pss_cons (ps_fld (pv 0) (pv 1) rfl)
      (pss_cons (ps_fld (pv 0) (pe_lst pa_nil) rfl)
      (pss_one (ps_fld (pv 0) (pe_lst pa_nil) rfl))))), fun M ws o h => big_Day_init T.day h⟩)
  first | (obtain ⟨rfl, _⟩ := h; rfl; done) | (obtain ⟨_, rfl, _⟩ := h; rfl; done) | (obtain ⟨_, _, rfl, _⟩ := h; rfl; done) | (obtain ⟨_, _, _, rfl, _⟩ := h; rfl; done) | (obtain ⟨_, _, _, _, rfl, _⟩ := h; rfl; done) | (obtain ⟨_, _, _, _, _, rfl, _⟩ := h; rfl; done) | (obtain ⟨_, _, _, _, _, _, rfl, _⟩ := h; rfl; done) | (obtain ⟨_, _, _, _, _, _, _, rfl, _⟩ := h; rfl; done) | (obtain ⟨_, _, _, _, _, _, _, _, rfl, _⟩ := h; rfl; done) | (obtain ⟨_, _, _, _, _, _, _, _, _, rfl, _⟩ := h; rfl; done) | (obtain ⟨_, _, _, _, _, _, _, _, _, _, rfl, _⟩ := h; rfl; done) | (obtain ⟨_, _, _, _, _, _, _, _, _, _, _, rfl, _⟩ := h; rfl; done) | (rcases h with h | h <;> (first | (obtain ⟨rfl, _⟩ := h; rfl; done) | (obtain ⟨_, rfl, _⟩ := h; rfl; done) | (obtain ⟨_, _, rfl, _⟩ := h; rfl; done) | (obtain ⟨_, _, _, rfl, _⟩ := h; rfl; done) | (obtain ⟨_, _, _, _, rfl, _⟩ := h; rfl; done) | (obtain ⟨_, _, _, _, _, rfl, _⟩ := h; rfl; done) | (obtain ⟨_, _, _, _, _, _, rfl, _⟩ := h; rfl; done) | (obtain ⟨_, _, _, _, _, _, _, rfl, _⟩ := h; rfl; done) | (obtain ⟨_, _, _, _, _, _, _, _, rfl, _⟩ := h; rfl; done) | (obtain ⟨_, _, _, _, _, _, _, _, _, rfl, _⟩ := h; rfl; done) | (obtain ⟨_, _, _, _, _, _, _, _, _, _, rfl, _⟩ := h; rfl; done) | (obtain ⟨_, _, _, _, _, _, _, _, _, _, _, rfl, _⟩ := h; rfl; done)))
theorem ok_Day_owe (T : Txt K mg X t_MOST t_MOST_HOUSES) {f : Addr} {fd : FuncData} (D : MetAt K "owe" "Day.owe" s_Day_owe ["self", "debtor", "creditor", "amount"] f fd)
    (c_is_debt : Cal P wd K mg base CX0 3 "is_debt" ["count", "thing"] (spOf K T_is_debt)) :
    FnOk P wd K mg base (L2N.CX P wd) 4 f fd ["self", "debtor", "creditor", "amount"] (spOf K (T_Day_owe X)) := by
  obtain ⟨f_is_debt, fd_is_debt, G_is_debt, m_is_debt, k_is_debt, b_is_debt⟩ := c_is_debt.ex
  refine fn_okX D.F sc_Day_owe (fun M ws o h => ?_) (fun cdv A outer s H E hr => ⟨_, (pss_cons (ps_set (i := 4) sc_Day_owe.nd rfl (Or.inl rfl) (pe_tup (pa_cons (pv 1) (pa_cons (pv 2) (pa_cons (pv 3) pa_nil)))))
      (pss_cons (ps_if (pt_not (pt_val (pe_call G_is_debt (hr.mono (by decide)) rfl m_is_debt k_is_debt b_is_debt .nil pass0 (pa_cons (pe_fld (pv 0) rfl) (pa_cons (pv 4) pa_nil))))) (pss_one (L2N.ps_raise rfl (L2N.takes_of rfl rfl rfl rfl) (L2N.pmk_own PySem.F.excBase_ValueError T.x_BadDebt.x T.x_BadDebt.g T.x_BadDebt.k (raises_own T.x_BadDebt.b T.x_BadDebt.t) rfl))) pss_nil)
      (pss_cons (ps_expr (pe_bm PySem.F.plainAttrs_list PySem.F.slot_list_append PySem.F.type_list_append mt_append (pe_fld (pv 0) rfl) (pa_cons (pv 4) pa_nil)))
      (pss_cons (ps_expr (pe_bm PySem.F.plainAttrs_list PySem.F.slot_list_append PySem.F.type_list_append mt_append (pe_fld (pv 0) rfl) (pa_cons (pv 3) pa_nil)))
      (pss_one (ps_ret (pe_op op_sub (pe_callB c_len (by rfl) T.n_len b_len (pa_cons (pe_fld (pv 0) rfl) pa_nil)) pe_int))))))), fun M ws o h => big_Day_owe T.day h⟩)
  first | (obtain ⟨rfl, _⟩ := h; rfl; done) | (obtain ⟨_, rfl, _⟩ := h; rfl; done) | (obtain ⟨_, _, rfl, _⟩ := h; rfl; done) | (obtain ⟨_, _, _, rfl, _⟩ := h; rfl; done) | (obtain ⟨_, _, _, _, rfl, _⟩ := h; rfl; done) | (obtain ⟨_, _, _, _, _, rfl, _⟩ := h; rfl; done) | (obtain ⟨_, _, _, _, _, _, rfl, _⟩ := h; rfl; done) | (obtain ⟨_, _, _, _, _, _, _, rfl, _⟩ := h; rfl; done) | (obtain ⟨_, _, _, _, _, _, _, _, rfl, _⟩ := h; rfl; done) | (obtain ⟨_, _, _, _, _, _, _, _, _, rfl, _⟩ := h; rfl; done) | (obtain ⟨_, _, _, _, _, _, _, _, _, _, rfl, _⟩ := h; rfl; done) | (obtain ⟨_, _, _, _, _, _, _, _, _, _, _, rfl, _⟩ := h; rfl; done) | (rcases h with h | h <;> (first | (obtain ⟨rfl, _⟩ := h; rfl; done) | (obtain ⟨_, rfl, _⟩ := h; rfl; done) | (obtain ⟨_, _, rfl, _⟩ := h; rfl; done) | (obtain ⟨_, _, _, rfl, _⟩ := h; rfl; done) | (obtain ⟨_, _, _, _, rfl, _⟩ := h; rfl; done) | (obtain ⟨_, _, _, _, _, rfl, _⟩ := h; rfl; done) | (obtain ⟨_, _, _, _, _, _, rfl, _⟩ := h; rfl; done) | (obtain ⟨_, _, _, _, _, _, _, rfl, _⟩ := h; rfl; done) | (obtain ⟨_, _, _, _, _, _, _, _, rfl, _⟩ := h; rfl; done) | (obtain ⟨_, _, _, _, _, _, _, _, _, rfl, _⟩ := h; rfl; done) | (obtain ⟨_, _, _, _, _, _, _, _, _, _, rfl, _⟩ := h; rfl; done) | (obtain ⟨_, _, _, _, _, _, _, _, _, _, _, rfl, _⟩ := h; rfl; done)))
theorem ok_Day_rest (T : Txt K mg X t_MOST t_MOST_HOUSES) {f : Addr} {fd : FuncData} (D : MetAt K "rest" "Day.rest" s_Day_rest ["self", "number"] f fd)
    (c_within : Cal P wd K mg base CX0 2 "within" ["thing", "low", "high"] (spOf K T_within)) :
    FnOk P wd K mg base (L2N.CX P wd) 3 f fd ["self", "number"] (spOf K (T_Day_rest X)) := by
  obtain ⟨f_within, fd_within, G_within, m_within, k_within, b_within⟩ := c_within.ex
  refine fn_okX D.F sc_Day_rest (fun M ws o h => ?_) (fun cdv A outer s H E hr => ⟨_, (pss_cons (ps_if (pt_not (pt_val (pe_call G_within (hr.mono (by decide)) rfl m_within k_within b_within .nil pass0 (pa_cons (pv 1) (pa_cons pe_int (pa_cons (pe_op op_sub (pe_callB c_len (by rfl) T.n_len b_len (pa_cons (pe_fld (pv 0) rfl) pa_nil)) pe_int) pa_nil)))))) (pss_one (L2N.ps_raise rfl (L2N.takes_of rfl rfl rfl rfl) (L2N.pmk_own PySem.F.excBase_ValueError T.x_NoDebt.x T.x_NoDebt.g T.x_NoDebt.k (raises_own T.x_NoDebt.b T.x_NoDebt.t) rfl))) pss_nil)
      (pss_one (ps_ret (pe_ix ix_seq (pe_fld (pv 0) rfl) (pv 1) (fun _ _ => rfl))))), fun M ws o h => big_Day_rest T.day h⟩)
  first | (obtain ⟨rfl, _⟩ := h; rfl; done) | (obtain ⟨_, rfl, _⟩ := h; rfl; done) | (obtain ⟨_, _, rfl, _⟩ := h; rfl; done) | (obtain ⟨_, _, _, rfl, _⟩ := h; rfl; done) | (obtain ⟨_, _, _, _, rfl, _⟩ := h; rfl; done) | (obtain ⟨_, _, _, _, _, rfl, _⟩ := h; rfl; done) | (obtain ⟨_, _, _, _, _, _, rfl, _⟩ := h; rfl; done) | (obtain ⟨_, _, _, _, _, _, _, rfl, _⟩ := h; rfl; done) | (obtain ⟨_, _, _, _, _, _, _, _, rfl, _⟩ := h; rfl; done) | (obtain ⟨_, _, _, _, _, _, _, _, _, rfl, _⟩ := h; rfl; done) | (obtain ⟨_, _, _, _, _, _, _, _, _, _, rfl, _⟩ := h; rfl; done) | (obtain ⟨_, _, _, _, _, _, _, _, _, _, _, rfl, _⟩ := h; rfl; done) | (rcases h with h | h <;> (first | (obtain ⟨rfl, _⟩ := h; rfl; done) | (obtain ⟨_, rfl, _⟩ := h; rfl; done) | (obtain ⟨_, _, rfl, _⟩ := h; rfl; done) | (obtain ⟨_, _, _, rfl, _⟩ := h; rfl; done) | (obtain ⟨_, _, _, _, rfl, _⟩ := h; rfl; done) | (obtain ⟨_, _, _, _, _, rfl, _⟩ := h; rfl; done) | (obtain ⟨_, _, _, _, _, _, rfl, _⟩ := h; rfl; done) | (obtain ⟨_, _, _, _, _, _, _, rfl, _⟩ := h; rfl; done) | (obtain ⟨_, _, _, _, _, _, _, _, rfl, _⟩ := h; rfl; done) | (obtain ⟨_, _, _, _, _, _, _, _, _, rfl, _⟩ := h; rfl; done) | (obtain ⟨_, _, _, _, _, _, _, _, _, _, rfl, _⟩ := h; rfl; done) | (obtain ⟨_, _, _, _, _, _, _, _, _, _, _, rfl, _⟩ := h; rfl; done)))
theorem ok_Day_pay (T : Txt K mg X t_MOST t_MOST_HOUSES) {f : Addr} {fd : FuncData} (D : MetAt K "pay" "Day.pay" s_Day_pay ["self", "number", "amount"] f fd)
    (c_within : Cal P wd K mg base CX0 2 "within" ["thing", "low", "high"] (spOf K T_within))
    (c_Day_rest : CalM P wd K mg base (L2N.CX P wd) 3 X.Day "rest" ["self", "number"] (spOf K (T_Day_rest X))) :
    FnOk P wd K mg base (L2N.CX P wd) 4 f fd ["self", "number", "amount"] (spOf K (T_Day_pay X)) := by
  obtain ⟨f_within, fd_within, G_within, m_within, k_within, b_within⟩ := c_within.ex
  obtain ⟨f_Day_rest, fd_Day_rest, G_Day_rest, M_Day_rest, b_Day_rest⟩ := c_Day_rest.ex
  refine fn_okX D.F sc_Day_pay (fun M ws o h => ?_) (fun cdv A outer s H E hr => ⟨_, (pss_cons (ps_set (i := 3) sc_Day_pay.nd rfl (Or.inl rfl) (pe_meth (pv 0) T.day.c M_Day_rest G_Day_rest (hr.mono (by decide)) b_Day_rest .nil (L2N.passes_call (L2N.takes_of rfl rfl rfl rfl) (fun _ _ _ _ h => h)) (pa_cons (pv 1) pa_nil)))
      (pss_cons (ps_if (pt_not (pt_val (pe_call G_within (hr.mono (by decide)) rfl m_within k_within b_within .nil pass0 (pa_cons (pv 2) (pa_cons pe_int (pa_cons (pv 3) pa_nil)))))) (pss_one (L2N.ps_raise rfl (L2N.takes_of rfl rfl rfl rfl) (L2N.pmk_own PySem.F.excBase_ValueError T.x_BadAmount.x T.x_BadAmount.g T.x_BadAmount.k (raises_own T.x_BadAmount.b T.x_BadAmount.t) rfl))) pss_nil)
      (pss_cons (ps_asg (pe_op op_sub (pv 3) (pv 2)) (pg_sub (pe_fld (pv 0) rfl) (pv 1) set_list))
      (pss_one (ps_ret (pe_ix ix_seq (pe_fld (pv 0) rfl) (pv 1) (fun _ _ => rfl))))))), fun M ws o h => big_Day_pay T.day h⟩)
  first | (obtain ⟨rfl, _⟩ := h; rfl; done) | (obtain ⟨_, rfl, _⟩ := h; rfl; done) | (obtain ⟨_, _, rfl, _⟩ := h; rfl; done) | (obtain ⟨_, _, _, rfl, _⟩ := h; rfl; done) | (obtain ⟨_, _, _, _, rfl, _⟩ := h; rfl; done) | (obtain ⟨_, _, _, _, _, rfl, _⟩ := h; rfl; done) | (obtain ⟨_, _, _, _, _, _, rfl, _⟩ := h; rfl; done) | (obtain ⟨_, _, _, _, _, _, _, rfl, _⟩ := h; rfl; done) | (obtain ⟨_, _, _, _, _, _, _, _, rfl, _⟩ := h; rfl; done) | (obtain ⟨_, _, _, _, _, _, _, _, _, rfl, _⟩ := h; rfl; done) | (obtain ⟨_, _, _, _, _, _, _, _, _, _, rfl, _⟩ := h; rfl; done) | (obtain ⟨_, _, _, _, _, _, _, _, _, _, _, rfl, _⟩ := h; rfl; done) | (rcases h with h | h <;> (first | (obtain ⟨rfl, _⟩ := h; rfl; done) | (obtain ⟨_, rfl, _⟩ := h; rfl; done) | (obtain ⟨_, _, rfl, _⟩ := h; rfl; done) | (obtain ⟨_, _, _, rfl, _⟩ := h; rfl; done) | (obtain ⟨_, _, _, _, rfl, _⟩ := h; rfl; done) | (obtain ⟨_, _, _, _, _, rfl, _⟩ := h; rfl; done) | (obtain ⟨_, _, _, _, _, _, rfl, _⟩ := h; rfl; done) | (obtain ⟨_, _, _, _, _, _, _, rfl, _⟩ := h; rfl; done) | (obtain ⟨_, _, _, _, _, _, _, _, rfl, _⟩ := h; rfl; done) | (obtain ⟨_, _, _, _, _, _, _, _, _, rfl, _⟩ := h; rfl; done) | (obtain ⟨_, _, _, _, _, _, _, _, _, _, rfl, _⟩ := h; rfl; done) | (obtain ⟨_, _, _, _, _, _, _, _, _, _, _, rfl, _⟩ := h; rfl; done)))
theorem ok_Day_standing (T : Txt K mg X t_MOST t_MOST_HOUSES) {f : Addr} {fd : FuncData} (D : MetAt K "standing" "Day.standing" s_Day_standing ["self"] f fd) :
    FnOk P wd K mg base CX0 1 f fd ["self"] (spOf K (T_Day_standing X)) := by
  refine fn_ok D.F sc_Day_standing (fun M ws o h => ?_) (fun cdv A outer s H E hr => ⟨_, (pss_cons (ps_set (i := 1) sc_Day_standing.nd rfl (Or.inl rfl) (pe_lst pa_nil))
      (pss_cons (ps_for PassesOwn.never rfl (pi_range1 rfl T.n_range (pa_cons (pe_callB c_len (by rfl) T.n_len b_len (pa_cons (pe_fld (pv 0) rfl) pa_nil)) pa_nil)) (pg_name (i := 2) sc_Day_standing.nd rfl (Or.inl rfl)) (pss_one (ps_if (pt_cmpR op_gt (pe_ix ix_seq (pe_fld (pv 0) rfl) (pv 2) (fun _ _ => rfl)) pe_int (nomark _)) (pss_one (ps_expr (pe_bm PySem.F.plainAttrs_list PySem.F.slot_list_append PySem.F.type_list_append mt_append (pv 1) (pa_cons (pe_tup (pa_cons (pv 2) (pa_cons (pe_ix ix_seq (pe_ix ix_seq (pe_fld (pv 0) rfl) (pv 2) (fun _ _ => rfl)) pe_int (fun _ _ => rfl)) (pa_cons (pe_ix ix_seq (pe_ix ix_seq (pe_fld (pv 0) rfl) (pv 2) (fun _ _ => rfl)) pe_int (fun _ _ => rfl)) (pa_cons (pe_ix ix_seq (pe_fld (pv 0) rfl) (pv 2) (fun _ _ => rfl)) pa_nil))))) pa_nil)))) pss_nil)))
      (pss_one (ps_ret (pv 1))))), fun M ws o h => big_Day_standing T.day h⟩)
  first | (obtain ⟨rfl, _⟩ := h; rfl; done) | (obtain ⟨_, rfl, _⟩ := h; rfl; done) | (obtain ⟨_, _, rfl, _⟩ := h; rfl; done) | (obtain ⟨_, _, _, rfl, _⟩ := h; rfl; done) | (obtain ⟨_, _, _, _, rfl, _⟩ := h; rfl; done) | (obtain ⟨_, _, _, _, _, rfl, _⟩ := h; rfl; done) | (obtain ⟨_, _, _, _, _, _, rfl, _⟩ := h; rfl; done) | (obtain ⟨_, _, _, _, _, _, _, rfl, _⟩ := h; rfl; done) | (obtain ⟨_, _, _, _, _, _, _, _, rfl, _⟩ := h; rfl; done) | (obtain ⟨_, _, _, _, _, _, _, _, _, rfl, _⟩ := h; rfl; done) | (obtain ⟨_, _, _, _, _, _, _, _, _, _, rfl, _⟩ := h; rfl; done) | (obtain ⟨_, _, _, _, _, _, _, _, _, _, _, rfl, _⟩ := h; rfl; done) | (rcases h with h | h <;> (first | (obtain ⟨rfl, _⟩ := h; rfl; done) | (obtain ⟨_, rfl, _⟩ := h; rfl; done) | (obtain ⟨_, _, rfl, _⟩ := h; rfl; done) | (obtain ⟨_, _, _, rfl, _⟩ := h; rfl; done) | (obtain ⟨_, _, _, _, rfl, _⟩ := h; rfl; done) | (obtain ⟨_, _, _, _, _, rfl, _⟩ := h; rfl; done) | (obtain ⟨_, _, _, _, _, _, rfl, _⟩ := h; rfl; done) | (obtain ⟨_, _, _, _, _, _, _, rfl, _⟩ := h; rfl; done) | (obtain ⟨_, _, _, _, _, _, _, _, rfl, _⟩ := h; rfl; done) | (obtain ⟨_, _, _, _, _, _, _, _, _, rfl, _⟩ := h; rfl; done) | (obtain ⟨_, _, _, _, _, _, _, _, _, _, rfl, _⟩ := h; rfl; done) | (obtain ⟨_, _, _, _, _, _, _, _, _, _, _, rfl, _⟩ := h; rfl; done)))
theorem ok_Day_balance (T : Txt K mg X t_MOST t_MOST_HOUSES) {f : Addr} {fd : FuncData} (D : MetAt K "balance" "Day.balance" s_Day_balance ["self", "house"] f fd)
    (c_balances : Cal P wd K mg base CX0 1 "balances" ["count", "debts"] (spOf K T_balances))
    (c_Day_standing : CalM P wd K mg base CX0 1 X.Day "standing" ["self"] (spOf K (T_Day_standing X)))
    (c_within : Cal P wd K mg base CX0 2 "within" ["thing", "low", "high"] (spOf K T_within)) :
    FnOk P wd K mg base (L2N.CX P wd) 3 f fd ["self", "house"] (spOf K (T_Day_balance X)) := by
  obtain ⟨f_balances, fd_balances, G_balances, m_balances, k_balances, b_balances⟩ := c_balances.ex
  obtain ⟨f_Day_standing, fd_Day_standing, G_Day_standing, M_Day_standing, b_Day_standing⟩ := c_Day_standing.ex
  obtain ⟨f_within, fd_within, G_within, m_within, k_within, b_within⟩ := c_within.ex
  refine fn_okX D.F sc_Day_balance (fun M ws o h => ?_) (fun cdv A outer s H E hr => ⟨_, (pss_cons (ps_if (pt_not (pt_val (pe_call G_within (hr.mono (by decide)) rfl m_within k_within b_within .nil pass0 (pa_cons (pv 1) (pa_cons pe_int (pa_cons (pe_op op_sub (pe_fld (pv 0) rfl) pe_int) pa_nil)))))) (pss_one (L2N.ps_raise rfl (L2N.takes_of rfl rfl rfl rfl) (L2N.pmk_own PySem.F.excBase_ValueError T.x_NoHouse.x T.x_NoHouse.g T.x_NoHouse.k (raises_own T.x_NoHouse.b T.x_NoHouse.t) rfl))) pss_nil)
      (pss_one (ps_ret (pe_ix ix_seq (pe_call G_balances (hr.mono (by decide)) rfl m_balances k_balances b_balances .nil pass0 (pa_cons (pe_fld (pv 0) rfl) (pa_cons (pe_lc (own := [("row", 2)]) (g := gName 2) (tt := tYes) rfl sc_Day_balance.nd (pi_list (pe_meth0 (pv 0) T.day.c M_Day_standing G_Day_standing (hr.mono (by decide)) b_Day_standing .nil pass0)) (blkOk_by (own := [("row", 2)]) (N := ["self", "house", "row"]) (sc := defScope s_Day_balance) (by decide +kernel)) (fun _ _ _ _ _ => pg_name (i := 2) sc_Day_balance.nd rfl (Or.inl rfl)) (fun _ _ _ _ _ => pts_nil) (fun _ _ _ _ _ => (pe_slice sl_tup (pv 2) (po_some pe_int) po_none))) pa_nil))) (pv 1) (fun _ _ => rfl))))), fun M ws o h => big_Day_balance T.day h⟩)
  first | (obtain ⟨rfl, _⟩ := h; rfl; done) | (obtain ⟨_, rfl, _⟩ := h; rfl; done) | (obtain ⟨_, _, rfl, _⟩ := h; rfl; done) | (obtain ⟨_, _, _, rfl, _⟩ := h; rfl; done) | (obtain ⟨_, _, _, _, rfl, _⟩ := h; rfl; done) | (obtain ⟨_, _, _, _, _, rfl, _⟩ := h; rfl; done) | (obtain ⟨_, _, _, _, _, _, rfl, _⟩ := h; rfl; done) | (obtain ⟨_, _, _, _, _, _, _, rfl, _⟩ := h; rfl; done) | (obtain ⟨_, _, _, _, _, _, _, _, rfl, _⟩ := h; rfl; done) | (obtain ⟨_, _, _, _, _, _, _, _, _, rfl, _⟩ := h; rfl; done) | (obtain ⟨_, _, _, _, _, _, _, _, _, _, rfl, _⟩ := h; rfl; done) | (obtain ⟨_, _, _, _, _, _, _, _, _, _, _, rfl, _⟩ := h; rfl; done) | (rcases h with h | h <;> (first | (obtain ⟨rfl, _⟩ := h; rfl; done) | (obtain ⟨_, rfl, _⟩ := h; rfl; done) | (obtain ⟨_, _, rfl, _⟩ := h; rfl; done) | (obtain ⟨_, _, _, rfl, _⟩ := h; rfl; done) | (obtain ⟨_, _, _, _, rfl, _⟩ := h; rfl; done) | (obtain ⟨_, _, _, _, _, rfl, _⟩ := h; rfl; done) | (obtain ⟨_, _, _, _, _, _, rfl, _⟩ := h; rfl; done) | (obtain ⟨_, _, _, _, _, _, _, rfl, _⟩ := h; rfl; done) | (obtain ⟨_, _, _, _, _, _, _, _, rfl, _⟩ := h; rfl; done) | (obtain ⟨_, _, _, _, _, _, _, _, _, rfl, _⟩ := h; rfl; done) | (obtain ⟨_, _, _, _, _, _, _, _, _, _, rfl, _⟩ := h; rfl; done) | (obtain ⟨_, _, _, _, _, _, _, _, _, _, _, rfl, _⟩ := h; rfl; done)))
theorem ok_qcell_at (T : Txt K mg X t_MOST t_MOST_HOUSES) {f : Addr} {fd : FuncData} (D : DefAt K mg "_law_cell_at" s_qcell_at ["_law_script", "_law_k"] f fd) :
    FnOk P wd K mg base CX0 1 f fd ["_law_script", "_law_k"] (spOf K T_qcell_at) := by
  refine fn_ok D.F sc_qcell_at (fun M ws o h => ?_) (fun cdv A outer s H E hr => ⟨_, (pss_cons (ps_if (pt_cmpR op_lt (pv 1) (pe_callB c_len (by rfl) T.n_len b_len (pa_cons (pv 0) pa_nil)) (nomark _)) (pss_one (ps_ret (pe_ix ix_seq (pv 0) (pv 1) (fun _ _ => rfl)))) pss_nil)
      (pss_one (ps_ret pe_int))), fun M ws o h => big_qcell_at h⟩)
  first | (obtain ⟨rfl, _⟩ := h; rfl; done) | (obtain ⟨_, rfl, _⟩ := h; rfl; done) | (obtain ⟨_, _, rfl, _⟩ := h; rfl; done) | (obtain ⟨_, _, _, rfl, _⟩ := h; rfl; done) | (obtain ⟨_, _, _, _, rfl, _⟩ := h; rfl; done) | (obtain ⟨_, _, _, _, _, rfl, _⟩ := h; rfl; done) | (obtain ⟨_, _, _, _, _, _, rfl, _⟩ := h; rfl; done) | (obtain ⟨_, _, _, _, _, _, _, rfl, _⟩ := h; rfl; done) | (obtain ⟨_, _, _, _, _, _, _, _, rfl, _⟩ := h; rfl; done) | (obtain ⟨_, _, _, _, _, _, _, _, _, rfl, _⟩ := h; rfl; done) | (obtain ⟨_, _, _, _, _, _, _, _, _, _, rfl, _⟩ := h; rfl; done) | (obtain ⟨_, _, _, _, _, _, _, _, _, _, _, rfl, _⟩ := h; rfl; done) | (rcases h with h | h <;> (first | (obtain ⟨rfl, _⟩ := h; rfl; done) | (obtain ⟨_, rfl, _⟩ := h; rfl; done) | (obtain ⟨_, _, rfl, _⟩ := h; rfl; done) | (obtain ⟨_, _, _, rfl, _⟩ := h; rfl; done) | (obtain ⟨_, _, _, _, rfl, _⟩ := h; rfl; done) | (obtain ⟨_, _, _, _, _, rfl, _⟩ := h; rfl; done) | (obtain ⟨_, _, _, _, _, _, rfl, _⟩ := h; rfl; done) | (obtain ⟨_, _, _, _, _, _, _, rfl, _⟩ := h; rfl; done) | (obtain ⟨_, _, _, _, _, _, _, _, rfl, _⟩ := h; rfl; done) | (obtain ⟨_, _, _, _, _, _, _, _, _, rfl, _⟩ := h; rfl; done) | (obtain ⟨_, _, _, _, _, _, _, _, _, _, rfl, _⟩ := h; rfl; done) | (obtain ⟨_, _, _, _, _, _, _, _, _, _, _, rfl, _⟩ := h; rfl; done)))
theorem ok_qwhole (T : Txt K mg X t_MOST t_MOST_HOUSES) {f : Addr} {fd : FuncData} (D : DefAt K mg "_law_whole" s_qwhole ["_law_found"] f fd) :
    FnOk P wd K mg base CX0 1 f fd ["_law_found"] (spOf K T_qwhole) := by
  refine fn_ok D.F sc_qwhole (fun M ws o h => ?_) (fun cdv A outer s H E hr => ⟨_, (pss_one (ps_ret (pe_and (pe_callB call_isi (by rfl) T.n_isinstance b_isinstance (pa_cons (pv 0) (pa_cons (pe_bltn (v := .ty "int") (u := .type "int") (by rfl) T.n_int b_int rfl) pa_nil))) (pe_one (pe_not (pe_callB call_isi (by rfl) T.n_isinstance b_isinstance (pa_cons (pv 0) (pa_cons (pe_bltn (v := .ty "bool") (u := .type "bool") (by rfl) T.n_bool b_bool rfl) pa_nil)))))))), fun M ws o h => big_qwhole h⟩)
  first | (obtain ⟨rfl, _⟩ := h; rfl; done) | (obtain ⟨_, rfl, _⟩ := h; rfl; done) | (obtain ⟨_, _, rfl, _⟩ := h; rfl; done) | (obtain ⟨_, _, _, rfl, _⟩ := h; rfl; done) | (obtain ⟨_, _, _, _, rfl, _⟩ := h; rfl; done) | (obtain ⟨_, _, _, _, _, rfl, _⟩ := h; rfl; done) | (obtain ⟨_, _, _, _, _, _, rfl, _⟩ := h; rfl; done) | (obtain ⟨_, _, _, _, _, _, _, rfl, _⟩ := h; rfl; done) | (obtain ⟨_, _, _, _, _, _, _, _, rfl, _⟩ := h; rfl; done) | (obtain ⟨_, _, _, _, _, _, _, _, _, rfl, _⟩ := h; rfl; done) | (obtain ⟨_, _, _, _, _, _, _, _, _, _, rfl, _⟩ := h; rfl; done) | (obtain ⟨_, _, _, _, _, _, _, _, _, _, _, rfl, _⟩ := h; rfl; done) | (rcases h with h | h <;> (first | (obtain ⟨rfl, _⟩ := h; rfl; done) | (obtain ⟨_, rfl, _⟩ := h; rfl; done) | (obtain ⟨_, _, rfl, _⟩ := h; rfl; done) | (obtain ⟨_, _, _, rfl, _⟩ := h; rfl; done) | (obtain ⟨_, _, _, _, rfl, _⟩ := h; rfl; done) | (obtain ⟨_, _, _, _, _, rfl, _⟩ := h; rfl; done) | (obtain ⟨_, _, _, _, _, _, rfl, _⟩ := h; rfl; done) | (obtain ⟨_, _, _, _, _, _, _, rfl, _⟩ := h; rfl; done) | (obtain ⟨_, _, _, _, _, _, _, _, rfl, _⟩ := h; rfl; done) | (obtain ⟨_, _, _, _, _, _, _, _, _, rfl, _⟩ := h; rfl; done) | (obtain ⟨_, _, _, _, _, _, _, _, _, _, rfl, _⟩ := h; rfl; done) | (obtain ⟨_, _, _, _, _, _, _, _, _, _, _, rfl, _⟩ := h; rfl; done)))
theorem ok_qkind (T : Txt K mg X t_MOST t_MOST_HOUSES) {f : Addr} {fd : FuncData} (D : DefAt K mg "_law_kind" s_qkind ["_law_error"] f fd) :
    FnP P wd K mg base 1 f fd ["_law_error"] (spP K (T_qkind K X)) := by
  refine fn_okP D.F sc_qkind (fun e D M ws o h => ?_) (fun cdv A outer s H E p hr => ⟨_, (pss_cons (ps_set (i := 1) sc_qkind.nd rfl (Or.inl rfl) (pe_lst pa_nil))
      (pss_cons (ps_if (pt_val (pe_callB (HotP.call_isP List.mem_cons_self) (by rfl) T.n_isinstance b_isinstance (pa_cons (pv 0) (pa_cons (pe_glob (v := .ref X.BadCount) rfl T.k_BadCount rfl) pa_nil)))) (pss_one (ps_expr (pe_bm PySem.F.plainAttrs_list PySem.F.slot_list_append PySem.F.type_list_append mt_append (pv 1) (pa_cons pe_str pa_nil)))) pss_nil)
      (pss_cons (ps_if (pt_val (pe_callB (HotP.call_isP List.mem_cons_self) (by rfl) T.n_isinstance b_isinstance (pa_cons (pv 0) (pa_cons (pe_glob (v := .ref X.BadDebt) rfl T.k_BadDebt rfl) pa_nil)))) (pss_one (ps_expr (pe_bm PySem.F.plainAttrs_list PySem.F.slot_list_append PySem.F.type_list_append mt_append (pv 1) (pa_cons pe_str pa_nil)))) pss_nil)
      (pss_cons (ps_if (pt_val (pe_callB (HotP.call_isP List.mem_cons_self) (by rfl) T.n_isinstance b_isinstance (pa_cons (pv 0) (pa_cons (pe_glob (v := .ref X.BadCut) rfl T.k_BadCut rfl) pa_nil)))) (pss_one (ps_expr (pe_bm PySem.F.plainAttrs_list PySem.F.slot_list_append PySem.F.type_list_append mt_append (pv 1) (pa_cons pe_str pa_nil)))) pss_nil)
      (pss_cons (ps_if (pt_val (pe_callB (HotP.call_isP List.mem_cons_self) (by rfl) T.n_isinstance b_isinstance (pa_cons (pv 0) (pa_cons (pe_glob (v := .ref X.Uneven) rfl T.k_Uneven rfl) pa_nil)))) (pss_one (ps_expr (pe_bm PySem.F.plainAttrs_list PySem.F.slot_list_append PySem.F.type_list_append mt_append (pv 1) (pa_cons pe_str pa_nil)))) pss_nil)
      (pss_cons (ps_if (pt_val (pe_callB (HotP.call_isP List.mem_cons_self) (by rfl) T.n_isinstance b_isinstance (pa_cons (pv 0) (pa_cons (pe_glob (v := .ref X.BadPrices) rfl T.k_BadPrices rfl) pa_nil)))) (pss_one (ps_expr (pe_bm PySem.F.plainAttrs_list PySem.F.slot_list_append PySem.F.type_list_append mt_append (pv 1) (pa_cons pe_str pa_nil)))) pss_nil)
      (pss_cons (ps_if (pt_val (pe_callB (HotP.call_isP List.mem_cons_self) (by rfl) T.n_isinstance b_isinstance (pa_cons (pv 0) (pa_cons (pe_glob (v := .ref X.NotBest) rfl T.k_NotBest rfl) pa_nil)))) (pss_one (ps_expr (pe_bm PySem.F.plainAttrs_list PySem.F.slot_list_append PySem.F.type_list_append mt_append (pv 1) (pa_cons pe_str pa_nil)))) pss_nil)
      (pss_cons (ps_if (pt_val (pe_callB (HotP.call_isP List.mem_cons_self) (by rfl) T.n_isinstance b_isinstance (pa_cons (pv 0) (pa_cons (pe_glob (v := .ref X.NoDebt) rfl T.k_NoDebt rfl) pa_nil)))) (pss_one (ps_expr (pe_bm PySem.F.plainAttrs_list PySem.F.slot_list_append PySem.F.type_list_append mt_append (pv 1) (pa_cons pe_str pa_nil)))) pss_nil)
      (pss_cons (ps_if (pt_val (pe_callB (HotP.call_isP List.mem_cons_self) (by rfl) T.n_isinstance b_isinstance (pa_cons (pv 0) (pa_cons (pe_glob (v := .ref X.NoHouse) rfl T.k_NoHouse rfl) pa_nil)))) (pss_one (ps_expr (pe_bm PySem.F.plainAttrs_list PySem.F.slot_list_append PySem.F.type_list_append mt_append (pv 1) (pa_cons pe_str pa_nil)))) pss_nil)
      (pss_cons (ps_if (pt_val (pe_callB (HotP.call_isP List.mem_cons_self) (by rfl) T.n_isinstance b_isinstance (pa_cons (pv 0) (pa_cons (pe_glob (v := .ref X.BadAmount) rfl T.k_BadAmount rfl) pa_nil)))) (pss_one (ps_expr (pe_bm PySem.F.plainAttrs_list PySem.F.slot_list_append PySem.F.type_list_append mt_append (pv 1) (pa_cons pe_str pa_nil)))) pss_nil)
      (pss_cons (ps_if (PW.pt (pw_or (pt_cmpR op_ne (pe_callB c_len (by rfl) T.n_len b_len (pa_cons (pv 1) pa_nil)) pe_int (nomark _)) (pw_or1 (pt_not (pt_val (pe_callB (HotP.call_isP List.mem_cons_self) (by rfl) T.n_isinstance b_isinstance (pa_cons (pv 0) (pa_cons (pe_bltn (v := .ty "ValueError") (u := .type "ValueError") (by rfl) T.n_ValueError b_ValueError rfl) pa_nil)))))))) (pss_one (ps_ret pe_str)) pss_nil)
      (pss_one (ps_ret (pe_ix ix_seq (pv 1) pe_int (fun _ _ => rfl))))))))))))))), fun D M ws o hz hv h => big_qkind hz hv h⟩)
  first | (obtain ⟨rfl, _⟩ := h; rfl; done) | (obtain ⟨_, rfl, _⟩ := h; rfl; done) | (obtain ⟨_, _, rfl, _⟩ := h; rfl; done) | (obtain ⟨_, _, _, rfl, _⟩ := h; rfl; done) | (obtain ⟨_, _, _, _, rfl, _⟩ := h; rfl; done) | (obtain ⟨_, _, _, _, _, rfl, _⟩ := h; rfl; done) | (obtain ⟨_, _, _, _, _, _, rfl, _⟩ := h; rfl; done) | (obtain ⟨_, _, _, _, _, _, _, rfl, _⟩ := h; rfl; done) | (obtain ⟨_, _, _, _, _, _, _, _, rfl, _⟩ := h; rfl; done) | (obtain ⟨_, _, _, _, _, _, _, _, _, rfl, _⟩ := h; rfl; done) | (obtain ⟨_, _, _, _, _, _, _, _, _, _, rfl, _⟩ := h; rfl; done) | (obtain ⟨_, _, _, _, _, _, _, _, _, _, _, rfl, _⟩ := h; rfl; done) | (rcases h with h | h <;> (first | (obtain ⟨rfl, _⟩ := h; rfl; done) | (obtain ⟨_, rfl, _⟩ := h; rfl; done) | (obtain ⟨_, _, rfl, _⟩ := h; rfl; done) | (obtain ⟨_, _, _, rfl, _⟩ := h; rfl; done) | (obtain ⟨_, _, _, _, rfl, _⟩ := h; rfl; done) | (obtain ⟨_, _, _, _, _, rfl, _⟩ := h; rfl; done) | (obtain ⟨_, _, _, _, _, _, rfl, _⟩ := h; rfl; done) | (obtain ⟨_, _, _, _, _, _, _, rfl, _⟩ := h; rfl; done) | (obtain ⟨_, _, _, _, _, _, _, _, rfl, _⟩ := h; rfl; done) | (obtain ⟨_, _, _, _, _, _, _, _, _, rfl, _⟩ := h; rfl; done) | (obtain ⟨_, _, _, _, _, _, _, _, _, _, rfl, _⟩ := h; rfl; done) | (obtain ⟨_, _, _, _, _, _, _, _, _, _, _, rfl, _⟩ := h; rfl; done)))
theorem ok_qowed (T : Txt K mg X t_MOST t_MOST_HOUSES) {f : Addr} {fd : FuncData} (D : DefAt K mg "_law_owed" s_qowed ["_law_day", "_law_rows", "_law_count", "_law_cell"] f fd)
    (c_qwhole : Cal P wd K mg base CX0 1 "_law_whole" ["_law_found"] (spOf K T_qwhole))
    (c_Day_owe : CalM P wd K mg base (L2N.CX P wd) 4 X.Day "owe" ["self", "debtor", "creditor", "amount"] (spOf K (T_Day_owe X)))
    (c_qkind : CalP P wd K mg base 1 "_law_kind" ["_law_error"] (spP K (T_qkind K X))) :
    FnOk P wd K mg base CX0 5 f fd ["_law_day", "_law_rows", "_law_count", "_law_cell"] (spOf K (T_qowed X)) := by
  obtain ⟨f_qwhole, fd_qwhole, G_qwhole, m_qwhole, k_qwhole, b_qwhole⟩ := c_qwhole.ex
  obtain ⟨f_Day_owe, fd_Day_owe, G_Day_owe, M_Day_owe, b_Day_owe⟩ := c_Day_owe.ex
  obtain ⟨f_qkind, fd_qkind, G_qkind, m_qkind, k_qkind, b_qkind⟩ := c_qkind.ex
  refine fn_ok D.F sc_qowed (fun M ws o h => ?_) (fun cdv A outer s H E hr => ⟨_, (pss_cons (ps_set (i := 4) sc_qowed.nd rfl (Or.inl rfl) (pe_op op_mod (pe_op op_fdiv (pv 3) pe_int) (pv 2)))
      (pss_cons (ps_set (i := 5) sc_qowed.nd rfl (Or.inl rfl) (pe_op op_mod (pe_op op_add (pe_op op_add (pv 4) pe_int) (pe_op op_mod (pe_op op_fdiv (pv 3) pe_int) (pe_op op_sub (pv 2) pe_int))) (pv 2)))
      (pss_cons (ps_set (i := 6) sc_qowed.nd rfl (Or.inl rfl) (pe_op op_add pe_int (pe_op op_mod (pe_op op_fdiv (pv 3) pe_int) pe_int)))
      (pss_cons (ps_if (pt_cmpR op_eq (pe_op op_mod (pe_op op_fdiv (pv 3) pe_int) pe_int) pe_int (nomark _)) (pss_one (ps_set (i := 6) sc_qowed.nd rfl (Or.inl rfl) (pe_op op_add pe_int (pe_op op_mod (pe_op op_fdiv (pv 3) pe_int) pe_int)))) pss_nil)
      (pss_cons (ps_set (i := 7) sc_qowed.nd rfl (Or.inl rfl) (pe_callB c_len (by rfl) T.n_len b_len (pa_cons (pv 1) pa_nil)))
      (pss_cons (ps_if (pt_cmpR op_eq (pe_op op_mod (pv 3) pe_int) pe_int (nomark _)) (pss_cons (ps_set (i := 8) sc_qowed.nd rfl (Or.inl rfl) (pe_op op_mod (pe_op op_fdiv (pv 3) pe_int) pe_int))
      (pss_cons (ps_set (i := 9) sc_qowed.nd rfl (Or.inl rfl) (pe_lst (pa_cons (pe_tup (pa_cons (pv 4) (pa_cons (pv 4) (pa_cons (pv 6) pa_nil)))) (pa_cons (pe_tup (pa_cons (pe_op op_sub (pe_un un_neg pe_int) (pv 8)) (pa_cons (pv 5) (pa_cons (pv 6) pa_nil)))) (pa_cons (pe_tup (pa_cons (pv 4) (pa_cons (pe_op op_add (pv 2) (pv 8)) (pa_cons (pv 6) pa_nil)))) pa_nil)))))
      (pss_cons (ps_set (i := 9) sc_qowed.nd rfl (Or.inl rfl) (pe_op op_cat (pv 9) (pe_lst (pa_cons (pe_tup (pa_cons (pv 4) (pa_cons (pv 5) (pa_cons pe_int pa_nil)))) (pa_cons (pe_tup (pa_cons (pv 4) (pa_cons (pv 5) (pa_cons (pe_op op_add pe_int (pv 8)) pa_nil)))) (pa_cons (pe_tup (pa_cons (pv 4) (pa_cons pe_bl (pa_cons (pv 6) pa_nil)))) pa_nil))))))
      (pss_cons (ps_set (i := 9) sc_qowed.nd rfl (Or.inl rfl) (pe_op op_cat (pv 9) (pe_lst (pa_cons (pe_tup (pa_cons (pv 4) (pa_cons (pv 5) (pa_cons pe_non pa_nil)))) (pa_cons (pe_tup (pa_cons pe_str (pa_cons pe_int (pa_cons pe_int pa_nil)))) (pa_cons (pe_tup (pa_cons pe_bl (pa_cons (pv 5) (pa_cons (pv 6) pa_nil)))) pa_nil))))))
      (pss_cons (ps_set (i := 9) sc_qowed.nd rfl (Or.inl rfl) (pe_op op_cat (pv 9) (pe_lst (pa_cons (pe_tup (pa_cons (pv 4) (pa_cons (pe_op op_sub (pe_un un_neg pe_int) (pv 8)) (pa_cons (pv 6) pa_nil)))) (pa_cons (pe_tup (pa_cons (pe_op op_add (pv 2) (pv 8)) (pa_cons (pv 5) (pa_cons (pv 6) pa_nil)))) (pa_cons (pe_tup (pa_cons (pv 4) (pa_cons (pv 5) (pa_cons pe_bl pa_nil)))) pa_nil))))))
      (pss_cons (ps_set (i := 9) sc_qowed.nd rfl (Or.inl rfl) (pe_op op_cat (pv 9) (pe_lst (pa_cons (pe_tup (pa_cons (pv 4) (pa_cons (pv 5) (pa_cons pe_str pa_nil)))) (pa_cons (pe_tup (pa_cons (pv 4) (pa_cons pe_non (pa_cons (pv 6) pa_nil)))) (pa_cons (pe_tup (pa_cons (pv 4) (pa_cons (pv 5) (pa_cons (pe_op op_sub (pe_un un_neg pe_int) (pv 8)) pa_nil)))) (pa_cons (pe_tup (pa_cons pe_bl (pa_cons pe_int (pa_cons (pv 6) pa_nil)))) pa_nil)))))))
      (pss_cons (ps_asg (pe_ix ix_seq (pv 9) (pe_op op_mod (pe_op op_fdiv (pv 3) pe_int) pe_int) (fun _ _ => rfl)) (pg_tup rfl (pgs_cons (pg_name (i := 4) sc_qowed.nd rfl (Or.inl rfl)) (pgs_cons (pg_name (i := 5) sc_qowed.nd rfl (Or.inl rfl)) (pgs_cons (pg_name (i := 6) sc_qowed.nd rfl (Or.inl rfl)) pgs_nil)))))
      (pss_one (ps_set (i := 7) sc_qowed.nd rfl (Or.inl rfl) pe_str))))))))) pss_nil)
      (pss_cons (L2N.ps_try_as (i := 11) (Wout := fun _ _ _ _ => False) (tb := fun W => (tAsg (tMethS X.Day "owe" (spOf K (T_Day_owe X)) (WE W) (tVar 0) (tCons (tVar 4) (tCons (tVar 5) (tCons (tVar 6) tNil)))) (gName 10))) (ts := fun a cls d => (tRet (tOp rEq (tCall (spS K (T_qkind K X) a cls d) [] E0 (tCons (tVar 11) tNil)) (tVar 7)))) rfl rfl sc_qowed.nd rfl rfl ⟨rfl, rfl, .inl T.k_DebtError⟩ takesN0 (fun W pn xe tk po => (pss_one (ps_set (i := 10) sc_qowed.nd rfl (Or.inl rfl) (pe_methS (pv 0) T.day.c M_Day_owe G_Day_owe (hr.mono (by decide)) b_Day_owe (fun σ => L2N.passAt tk σ) (pa_cons (pv 4) (pa_cons (pv 5) (pa_cons (pv 6) pa_nil))))))) (fun a oe cls d pn hz hv => (pss_one (ps_ret (pe_cmpR op_eq (pe_callQ G_qkind (L2H.roomH_of (hr.mono (by decide))) hz hv rfl m_qkind k_qkind b_qkind (pa_cons (pv 11) pa_nil)) (pv 7) (nomark _))))))
      (pss_cons (ps_expr (pe_bm PySem.F.plainAttrs_list PySem.F.slot_list_append PySem.F.type_list_append mt_append (pv 1) (pa_cons (pe_lst (pa_cons (pv 4) (pa_cons (pv 5) (pa_cons (pv 6) pa_nil)))) pa_nil)))
      (pss_one (ps_ret (pe_and (pe_call G_qwhole (hr.mono (by decide)) rfl m_qwhole k_qwhole b_qwhole .nil pass0 (pa_cons (pv 10) pa_nil)) (pe_one (pe_cmpR op_eq (pv 10) (pv 7) (nomark _)))))))))))))), fun M ws o h => big_qowed T.e_BadDebt h⟩)
  first | (obtain ⟨rfl, _⟩ := h; rfl; done) | (obtain ⟨_, rfl, _⟩ := h; rfl; done) | (obtain ⟨_, _, rfl, _⟩ := h; rfl; done) | (obtain ⟨_, _, _, rfl, _⟩ := h; rfl; done) | (obtain ⟨_, _, _, _, rfl, _⟩ := h; rfl; done) | (obtain ⟨_, _, _, _, _, rfl, _⟩ := h; rfl; done) | (obtain ⟨_, _, _, _, _, _, rfl, _⟩ := h; rfl; done) | (obtain ⟨_, _, _, _, _, _, _, rfl, _⟩ := h; rfl; done) | (obtain ⟨_, _, _, _, _, _, _, _, rfl, _⟩ := h; rfl; done) | (obtain ⟨_, _, _, _, _, _, _, _, _, rfl, _⟩ := h; rfl; done) | (obtain ⟨_, _, _, _, _, _, _, _, _, _, rfl, _⟩ := h; rfl; done) | (obtain ⟨_, _, _, _, _, _, _, _, _, _, _, rfl, _⟩ := h; rfl; done) | (rcases h with h | h <;> (first | (obtain ⟨rfl, _⟩ := h; rfl; done) | (obtain ⟨_, rfl, _⟩ := h; rfl; done) | (obtain ⟨_, _, rfl, _⟩ := h; rfl; done) | (obtain ⟨_, _, _, rfl, _⟩ := h; rfl; done) | (obtain ⟨_, _, _, _, rfl, _⟩ := h; rfl; done) | (obtain ⟨_, _, _, _, _, rfl, _⟩ := h; rfl; done) | (obtain ⟨_, _, _, _, _, _, rfl, _⟩ := h; rfl; done) | (obtain ⟨_, _, _, _, _, _, _, rfl, _⟩ := h; rfl; done) | (obtain ⟨_, _, _, _, _, _, _, _, rfl, _⟩ := h; rfl; done) | (obtain ⟨_, _, _, _, _, _, _, _, _, rfl, _⟩ := h; rfl; done) | (obtain ⟨_, _, _, _, _, _, _, _, _, _, rfl, _⟩ := h; rfl; done) | (obtain ⟨_, _, _, _, _, _, _, _, _, _, _, rfl, _⟩ := h; rfl; done)))
theorem ok_qpaid (T : Txt K mg X t_MOST t_MOST_HOUSES) {f : Addr} {fd : FuncData} (D : DefAt K mg "_law_paid" s_qpaid ["_law_day", "_law_rows", "_law_cell"] f fd)
    (c_qwhole : Cal P wd K mg base CX0 1 "_law_whole" ["_law_found"] (spOf K T_qwhole))
    (c_Day_pay : CalM P wd K mg base (L2N.CX P wd) 4 X.Day "pay" ["self", "number", "amount"] (spOf K (T_Day_pay X)))
    (c_qkind : CalP P wd K mg base 1 "_law_kind" ["_law_error"] (spP K (T_qkind K X))) :
    FnOk P wd K mg base CX0 5 f fd ["_law_day", "_law_rows", "_law_cell"] (spOf K (T_qpaid X)) := by
  obtain ⟨f_qwhole, fd_qwhole, G_qwhole, m_qwhole, k_qwhole, b_qwhole⟩ := c_qwhole.ex
  obtain ⟨f_Day_pay, fd_Day_pay, G_Day_pay, M_Day_pay, b_Day_pay⟩ := c_Day_pay.ex
  obtain ⟨f_qkind, fd_qkind, G_qkind, m_qkind, k_qkind, b_qkind⟩ := c_qkind.ex
  refine fn_ok D.F sc_qpaid (fun M ws o h => ?_) (fun cdv A outer s H E hr => ⟨_, (pss_cons (ps_set (i := 3) sc_qpaid.nd rfl (Or.inl rfl) (pe_ix ix_seq (pe_lst (pa_cons (pe_callB c_len (by rfl) T.n_len b_len (pa_cons (pv 1) pa_nil)) (pa_cons (pe_un un_neg pe_int) (pa_cons pe_bl (pa_cons pe_non (pa_cons pe_str (pa_cons pe_bl (pa_cons (pe_op op_add (pe_op op_add (pe_callB c_len (by rfl) T.n_len b_len (pa_cons (pv 1) pa_nil)) pe_int) (pe_op op_mod (pe_op op_fdiv (pv 2) pe_int) pe_int)) pa_nil)))))))) (pe_op op_mod (pe_op op_fdiv (pv 2) pe_int) pe_int) (fun _ _ => rfl)))
      (pss_cons (ps_if (PW.pt (pw_and (pt_cmpR op_gt (pe_op op_mod (pv 2) pe_int) pe_int (nomark _)) (pw_and1 (pt_cmpR op_gt (pe_callB c_len (by rfl) T.n_len b_len (pa_cons (pv 1) pa_nil)) pe_int (nomark _))))) (pss_one (ps_set (i := 3) sc_qpaid.nd rfl (Or.inl rfl) (pe_op op_mod (pe_op op_fdiv (pv 2) pe_int) (pe_callB c_len (by rfl) T.n_len b_len (pa_cons (pv 1) pa_nil))))) pss_nil)
      (pss_cons (ps_set (i := 4) sc_qpaid.nd rfl (Or.inl rfl) pe_int)
      (pss_cons (ps_if (PW.pt (pw_and (pt_val (pe_call G_qwhole (hr.mono (by decide)) rfl m_qwhole k_qwhole b_qwhole .nil pass0 (pa_cons (pv 3) pa_nil))) (pw_and1 (pt_chain op_le op_lt pe_int (pv 3) (pe_callB c_len (by rfl) T.n_len b_len (pa_cons (pv 1) pa_nil)))))) (pss_one (ps_set (i := 4) sc_qpaid.nd rfl (Or.inl rfl) (pe_ix ix_seq (pe_ix ix_seq (pv 1) (pv 3) (fun _ _ => rfl)) pe_int (fun _ _ => rfl)))) pss_nil)
      (pss_cons (ps_set (i := 5) sc_qpaid.nd rfl (Or.inl rfl) (pe_ix ix_seq (pe_lst (pa_cons (pe_op op_add pe_int (pe_op op_mod (pe_op op_fdiv (pv 2) pe_int) pe_int)) (pa_cons (pv 4) (pa_cons (pe_op op_add (pv 4) pe_int) (pa_cons pe_int (pa_cons pe_bl (pa_cons pe_str (pa_cons (pe_un un_neg pe_int) (pa_cons (pe_op op_add (pe_op op_pow pe_int pe_int) (pv 4)) pa_nil))))))))) (pe_op op_mod (pe_op op_fdiv (pv 2) pe_int) pe_int) (fun _ _ => rfl)))
      (pss_cons (ps_set (i := 6) sc_qpaid.nd rfl (Or.inl rfl) pe_str)
      (pss_cons (ps_if (PW.pt (pw_or (pt_not (pt_val (pe_call G_qwhole (hr.mono (by decide)) rfl m_qwhole k_qwhole b_qwhole .nil pass0 (pa_cons (pv 3) pa_nil)))) (pw_or1 (pt_not (pt_chain op_le op_lt pe_int (pv 3) (pe_callB c_len (by rfl) T.n_len b_len (pa_cons (pv 1) pa_nil))))))) (pss_one (ps_set (i := 6) sc_qpaid.nd rfl (Or.inl rfl) pe_str)) (pss_one (ps_if (PW.pt (pw_or (pt_not (pt_val (pe_call G_qwhole (hr.mono (by decide)) rfl m_qwhole k_qwhole b_qwhole .nil pass0 (pa_cons (pv 5) pa_nil)))) (pw_or1 (pt_not (pt_chain op_le op_le pe_int (pv 5) (pv 4)))))) (pss_one (ps_set (i := 6) sc_qpaid.nd rfl (Or.inl rfl) pe_str)) pss_nil)))
      (pss_cons (L2N.ps_try_as (i := 8) (Wout := fun _ _ _ _ => False) (tb := fun W => (tAsg (tMethS X.Day "pay" (spOf K (T_Day_pay X)) (WE W) (tVar 0) (tCons (tVar 3) (tCons (tVar 5) tNil))) (gName 7))) (ts := fun a cls d => (tRet (tOp rEq (tCall (spS K (T_qkind K X) a cls d) [] E0 (tCons (tVar 8) tNil)) (tVar 6)))) rfl rfl sc_qpaid.nd rfl rfl ⟨rfl, rfl, .inl T.k_DebtError⟩ takesN0 (fun W pn xe tk po => (pss_one (ps_set (i := 7) sc_qpaid.nd rfl (Or.inl rfl) (pe_methS (pv 0) T.day.c M_Day_pay G_Day_pay (hr.mono (by decide)) b_Day_pay (fun σ => L2N.passAt tk σ) (pa_cons (pv 3) (pa_cons (pv 5) pa_nil)))))) (fun a oe cls d pn hz hv => (pss_one (ps_ret (pe_cmpR op_eq (pe_callQ G_qkind (L2H.roomH_of (hr.mono (by decide))) hz hv rfl m_qkind k_qkind b_qkind (pa_cons (pv 8) pa_nil)) (pv 6) (nomark _))))))
      (pss_cons (ps_if (pt_cmpR op_ne (pv 6) pe_str (nomark _)) (pss_one (ps_ret pe_bl)) pss_nil)
      (pss_cons (ps_asg (pe_op op_sub (pv 4) (pv 5)) (pg_sub (pe_ix ix_seq (pv 1) (pv 3) (fun _ _ => rfl)) pe_int set_list))
      (pss_one (ps_ret (pe_and (pe_call G_qwhole (hr.mono (by decide)) rfl m_qwhole k_qwhole b_qwhole .nil pass0 (pa_cons (pv 7) pa_nil)) (pe_one (pe_cmpR op_eq (pv 7) (pe_op op_sub (pv 4) (pv 5)) (nomark _)))))))))))))))), fun M ws o h => big_qpaid T.e_NoDebt T.e_BadAmount h⟩)
  first | (obtain ⟨rfl, _⟩ := h; rfl; done) | (obtain ⟨_, rfl, _⟩ := h; rfl; done) | (obtain ⟨_, _, rfl, _⟩ := h; rfl; done) | (obtain ⟨_, _, _, rfl, _⟩ := h; rfl; done) | (obtain ⟨_, _, _, _, rfl, _⟩ := h; rfl; done) | (obtain ⟨_, _, _, _, _, rfl, _⟩ := h; rfl; done) | (obtain ⟨_, _, _, _, _, _, rfl, _⟩ := h; rfl; done) | (obtain ⟨_, _, _, _, _, _, _, rfl, _⟩ := h; rfl; done) | (obtain ⟨_, _, _, _, _, _, _, _, rfl, _⟩ := h; rfl; done) | (obtain ⟨_, _, _, _, _, _, _, _, _, rfl, _⟩ := h; rfl; done) | (obtain ⟨_, _, _, _, _, _, _, _, _, _, rfl, _⟩ := h; rfl; done) | (obtain ⟨_, _, _, _, _, _, _, _, _, _, _, rfl, _⟩ := h; rfl; done) | (rcases h with h | h <;> (first | (obtain ⟨rfl, _⟩ := h; rfl; done) | (obtain ⟨_, rfl, _⟩ := h; rfl; done) | (obtain ⟨_, _, rfl, _⟩ := h; rfl; done) | (obtain ⟨_, _, _, rfl, _⟩ := h; rfl; done) | (obtain ⟨_, _, _, _, rfl, _⟩ := h; rfl; done) | (obtain ⟨_, _, _, _, _, rfl, _⟩ := h; rfl; done) | (obtain ⟨_, _, _, _, _, _, rfl, _⟩ := h; rfl; done) | (obtain ⟨_, _, _, _, _, _, _, rfl, _⟩ := h; rfl; done) | (obtain ⟨_, _, _, _, _, _, _, _, rfl, _⟩ := h; rfl; done) | (obtain ⟨_, _, _, _, _, _, _, _, _, rfl, _⟩ := h; rfl; done) | (obtain ⟨_, _, _, _, _, _, _, _, _, _, rfl, _⟩ := h; rfl; done) | (obtain ⟨_, _, _, _, _, _, _, _, _, _, _, rfl, _⟩ := h; rfl; done)))
theorem ok_qno_house (T : Txt K mg X t_MOST t_MOST_HOUSES) {f : Addr} {fd : FuncData} (D : DefAt K mg "_law_no_house" s_qno_house ["_law_day", "_law_house"] f fd)
    (c_Day_balance : CalM P wd K mg base (L2N.CX P wd) 3 X.Day "balance" ["self", "house"] (spOf K (T_Day_balance X)))
    (c_qkind : CalP P wd K mg base 1 "_law_kind" ["_law_error"] (spP K (T_qkind K X))) :
    FnOk P wd K mg base CX0 4 f fd ["_law_day", "_law_house"] (spOf K (T_qno_house X)) := by
  obtain ⟨f_Day_balance, fd_Day_balance, G_Day_balance, M_Day_balance, b_Day_balance⟩ := c_Day_balance.ex
  obtain ⟨f_qkind, fd_qkind, G_qkind, m_qkind, k_qkind, b_qkind⟩ := c_qkind.ex
  refine fn_ok D.F sc_qno_house (fun M ws o h => ?_) (fun cdv A outer s H E hr => ⟨_, (pss_cons (L2N.ps_try_as (i := 2) (Wout := fun _ _ _ _ => False) (tb := fun W => (tDrop (tMethS X.Day "balance" (spOf K (T_Day_balance X)) (WE W) (tVar 0) (tCons (tVar 1) tNil)))) (ts := fun a cls d => (tRet (tOp rEq (tCall (spS K (T_qkind K X) a cls d) [] E0 (tCons (tVar 2) tNil)) (tC (.str "house"))))) rfl rfl sc_qno_house.nd rfl rfl ⟨rfl, rfl, .inl T.k_DebtError⟩ takesN0 (fun W pn xe tk po => (pss_one (ps_expr (pe_methS (pv 0) T.day.c M_Day_balance G_Day_balance (hr.mono (by decide)) b_Day_balance (fun σ => L2N.passAt tk σ) (pa_cons (pv 1) pa_nil))))) (fun a oe cls d pn hz hv => (pss_one (ps_ret (pe_cmpR op_eq (pe_callQ G_qkind (L2H.roomH_of (hr.mono (by decide))) hz hv rfl m_qkind k_qkind b_qkind (pa_cons (pv 2) pa_nil)) pe_str (nomark _))))))
      (pss_one (ps_ret pe_bl))), fun M ws o h => big_qno_house T.e_NoHouse h⟩)
  first | (obtain ⟨rfl, _⟩ := h; rfl; done) | (obtain ⟨_, rfl, _⟩ := h; rfl; done) | (obtain ⟨_, _, rfl, _⟩ := h; rfl; done) | (obtain ⟨_, _, _, rfl, _⟩ := h; rfl; done) | (obtain ⟨_, _, _, _, rfl, _⟩ := h; rfl; done) | (obtain ⟨_, _, _, _, _, rfl, _⟩ := h; rfl; done) | (obtain ⟨_, _, _, _, _, _, rfl, _⟩ := h; rfl; done) | (obtain ⟨_, _, _, _, _, _, _, rfl, _⟩ := h; rfl; done) | (obtain ⟨_, _, _, _, _, _, _, _, rfl, _⟩ := h; rfl; done) | (obtain ⟨_, _, _, _, _, _, _, _, _, rfl, _⟩ := h; rfl; done) | (obtain ⟨_, _, _, _, _, _, _, _, _, _, rfl, _⟩ := h; rfl; done) | (obtain ⟨_, _, _, _, _, _, _, _, _, _, _, rfl, _⟩ := h; rfl; done) | (rcases h with h | h <;> (first | (obtain ⟨rfl, _⟩ := h; rfl; done) | (obtain ⟨_, rfl, _⟩ := h; rfl; done) | (obtain ⟨_, _, rfl, _⟩ := h; rfl; done) | (obtain ⟨_, _, _, rfl, _⟩ := h; rfl; done) | (obtain ⟨_, _, _, _, rfl, _⟩ := h; rfl; done) | (obtain ⟨_, _, _, _, _, rfl, _⟩ := h; rfl; done) | (obtain ⟨_, _, _, _, _, _, rfl, _⟩ := h; rfl; done) | (obtain ⟨_, _, _, _, _, _, _, rfl, _⟩ := h; rfl; done) | (obtain ⟨_, _, _, _, _, _, _, _, rfl, _⟩ := h; rfl; done) | (obtain ⟨_, _, _, _, _, _, _, _, _, rfl, _⟩ := h; rfl; done) | (obtain ⟨_, _, _, _, _, _, _, _, _, _, rfl, _⟩ := h; rfl; done) | (obtain ⟨_, _, _, _, _, _, _, _, _, _, _, rfl, _⟩ := h; rfl; done)))
theorem ok_qno_number (T : Txt K mg X t_MOST t_MOST_HOUSES) {f : Addr} {fd : FuncData} (D : DefAt K mg "_law_no_number" s_qno_number ["_law_day", "_law_number"] f fd)
    (c_Day_rest : CalM P wd K mg base (L2N.CX P wd) 3 X.Day "rest" ["self", "number"] (spOf K (T_Day_rest X)))
    (c_qkind : CalP P wd K mg base 1 "_law_kind" ["_law_error"] (spP K (T_qkind K X))) :
    FnOk P wd K mg base CX0 4 f fd ["_law_day", "_law_number"] (spOf K (T_qno_number X)) := by
  obtain ⟨f_Day_rest, fd_Day_rest, G_Day_rest, M_Day_rest, b_Day_rest⟩ := c_Day_rest.ex
  obtain ⟨f_qkind, fd_qkind, G_qkind, m_qkind, k_qkind, b_qkind⟩ := c_qkind.ex
  refine fn_ok D.F sc_qno_number (fun M ws o h => ?_) (fun cdv A outer s H E hr => ⟨_, (pss_cons (L2N.ps_try_as (i := 2) (Wout := fun _ _ _ _ => False) (tb := fun W => (tDrop (tMethS X.Day "rest" (spOf K (T_Day_rest X)) (WE W) (tVar 0) (tCons (tVar 1) tNil)))) (ts := fun a cls d => (tRet (tOp rEq (tCall (spS K (T_qkind K X) a cls d) [] E0 (tCons (tVar 2) tNil)) (tC (.str "number"))))) rfl rfl sc_qno_number.nd rfl rfl ⟨rfl, rfl, .inl T.k_DebtError⟩ takesN0 (fun W pn xe tk po => (pss_one (ps_expr (pe_methS (pv 0) T.day.c M_Day_rest G_Day_rest (hr.mono (by decide)) b_Day_rest (fun σ => L2N.passAt tk σ) (pa_cons (pv 1) pa_nil))))) (fun a oe cls d pn hz hv => (pss_one (ps_ret (pe_cmpR op_eq (pe_callQ G_qkind (L2H.roomH_of (hr.mono (by decide))) hz hv rfl m_qkind k_qkind b_qkind (pa_cons (pv 2) pa_nil)) pe_str (nomark _))))))
      (pss_one (ps_ret pe_bl))), fun M ws o h => big_qno_number T.e_NoDebt h⟩)
  first | (obtain ⟨rfl, _⟩ := h; rfl; done) | (obtain ⟨_, rfl, _⟩ := h; rfl; done) | (obtain ⟨_, _, rfl, _⟩ := h; rfl; done) | (obtain ⟨_, _, _, rfl, _⟩ := h; rfl; done) | (obtain ⟨_, _, _, _, rfl, _⟩ := h; rfl; done) | (obtain ⟨_, _, _, _, _, rfl, _⟩ := h; rfl; done) | (obtain ⟨_, _, _, _, _, _, rfl, _⟩ := h; rfl; done) | (obtain ⟨_, _, _, _, _, _, _, rfl, _⟩ := h; rfl; done) | (obtain ⟨_, _, _, _, _, _, _, _, rfl, _⟩ := h; rfl; done) | (obtain ⟨_, _, _, _, _, _, _, _, _, rfl, _⟩ := h; rfl; done) | (obtain ⟨_, _, _, _, _, _, _, _, _, _, rfl, _⟩ := h; rfl; done) | (obtain ⟨_, _, _, _, _, _, _, _, _, _, _, rfl, _⟩ := h; rfl; done) | (rcases h with h | h <;> (first | (obtain ⟨rfl, _⟩ := h; rfl; done) | (obtain ⟨_, rfl, _⟩ := h; rfl; done) | (obtain ⟨_, _, rfl, _⟩ := h; rfl; done) | (obtain ⟨_, _, _, rfl, _⟩ := h; rfl; done) | (obtain ⟨_, _, _, _, rfl, _⟩ := h; rfl; done) | (obtain ⟨_, _, _, _, _, rfl, _⟩ := h; rfl; done) | (obtain ⟨_, _, _, _, _, _, rfl, _⟩ := h; rfl; done) | (obtain ⟨_, _, _, _, _, _, _, rfl, _⟩ := h; rfl; done) | (obtain ⟨_, _, _, _, _, _, _, _, rfl, _⟩ := h; rfl; done) | (obtain ⟨_, _, _, _, _, _, _, _, _, rfl, _⟩ := h; rfl; done) | (obtain ⟨_, _, _, _, _, _, _, _, _, _, rfl, _⟩ := h; rfl; done) | (obtain ⟨_, _, _, _, _, _, _, _, _, _, _, rfl, _⟩ := h; rfl; done)))
theorem ok_qtold (T : Txt K mg X t_MOST t_MOST_HOUSES) {f : Addr} {fd : FuncData} (D : DefAt K mg "_law_told" s_qtold ["_law_day", "_law_rows", "_law_count", "_law_way"] f fd)
    (c_qwhole : Cal P wd K mg base CX0 1 "_law_whole" ["_law_found"] (spOf K T_qwhole))
    (c_Day_balance : CalM P wd K mg base (L2N.CX P wd) 3 X.Day "balance" ["self", "house"] (spOf K (T_Day_balance X)))
    (c_Day_standing : CalM P wd K mg base CX0 1 X.Day "standing" ["self"] (spOf K (T_Day_standing X)))
    (c_Day_rest : CalM P wd K mg base (L2N.CX P wd) 3 X.Day "rest" ["self", "number"] (spOf K (T_Day_rest X))) :
    FnOk P wd K mg base CX0 4 f fd ["_law_day", "_law_rows", "_law_count", "_law_way"] (spOf K (T_qtold X)) := by
  obtain ⟨f_qwhole, fd_qwhole, G_qwhole, m_qwhole, k_qwhole, b_qwhole⟩ := c_qwhole.ex
  obtain ⟨f_Day_balance, fd_Day_balance, G_Day_balance, M_Day_balance, b_Day_balance⟩ := c_Day_balance.ex
  obtain ⟨f_Day_standing, fd_Day_standing, G_Day_standing, M_Day_standing, b_Day_standing⟩ := c_Day_standing.ex
  obtain ⟨f_Day_rest, fd_Day_rest, G_Day_rest, M_Day_rest, b_Day_rest⟩ := c_Day_rest.ex
  refine fn_ok D.F sc_qtold (fun M ws o h => ?_) (fun cdv A outer s H E hr => ⟨_, (pss_cons (ps_if (pt_cmpR op_eq (pv 3) pe_int (nomark _)) (pss_cons (ps_setLc (i := 4) (own := [("_law_k", 9)]) (g := gName 9) (tt := tYes) rfl sc_qtold.nd rfl rfl (sw_true rfl rfl rfl (by decide +kernel)) (pi_range1 rfl T.n_range (pa_cons (pe_callB c_len (by rfl) T.n_len b_len (pa_cons (pv 1) pa_nil)) pa_nil)) (blkOk_by (own := [("_law_k", 9)]) (N := ["_law_day", "_law_rows", "_law_count", "_law_way", "_law_found", "_law_row", "_law_due", "_law_sums", "_law_house", "_law_k", "_law_one", "_law_part"]) (sc := defScope s_qtold) (by decide +kernel)) (fun _ _ _ _ _ => pg_name (i := 9) sc_qtold.nd rfl (Or.inl rfl)) (fun _ _ _ _ _ => pts_nil) (fun _ _ _ _ _ => (pe_meth (pv 0) T.day.c M_Day_rest G_Day_rest (hr.mono (by decide)) b_Day_rest .nil passN (pa_cons (pv 9) pa_nil))))
      (pss_one (ps_ret (pe_and (pe_cmpR (op_eqD hr.units) (pv 4) (pe_lc (own := [("_law_row", 5)]) (g := gName 5) (tt := tYes) rfl sc_qtold.nd (pi_list (pv 1)) (blkOk_by (own := [("_law_row", 5)]) (N := ["_law_day", "_law_rows", "_law_count", "_law_way", "_law_found", "_law_row", "_law_due", "_law_sums", "_law_house", "_law_k", "_law_one", "_law_part"]) (sc := defScope s_qtold) (by decide +kernel)) (fun _ _ _ _ _ => pg_name (i := 5) sc_qtold.nd rfl (Or.inl rfl)) (fun _ _ _ _ _ => pts_nil) (fun _ _ _ _ _ => (pe_ix ix_seq (pv 5) pe_int (fun _ _ => rfl)))) (nomark _)) (pe_one (pe_callB (cr_all rfl) (by rfl) T.n_all b_all (pa_cons (pe_lc (own := [("_law_one", 10)]) (g := gName 10) (tt := tYes) rfl sc_qtold.nd (pi_list (pv 4)) (blkOk_by (own := [("_law_one", 10)]) (N := ["_law_day", "_law_rows", "_law_count", "_law_way", "_law_found", "_law_row", "_law_due", "_law_sums", "_law_house", "_law_k", "_law_one", "_law_part"]) (sc := defScope s_qtold) (by decide +kernel)) (fun _ _ _ _ _ => pg_name (i := 10) sc_qtold.nd rfl (Or.inl rfl)) (fun _ _ _ _ _ => pts_nil) (fun _ _ _ _ _ => (pe_call G_qwhole (hr.mono (by decide)) rfl m_qwhole k_qwhole b_qwhole .nil pass0 (pa_cons (pv 10) pa_nil)))) pa_nil))))))) pss_nil)
      (pss_cons (ps_if (pt_cmpR op_eq (pv 3) pe_int (nomark _)) (pss_cons (ps_setLc (i := 6) (own := [("_law_k", 9)]) (g := gName 9) (tt := (tTest (tOp xGt (tOp (rIx K) (tOp (rIx K) (tVar 1) (tVar 9)) (tC (.int 2))) (tC (.int 0))))) rfl sc_qtold.nd rfl rfl (sw_true rfl rfl rfl (by decide +kernel)) (pi_range1 rfl T.n_range (pa_cons (pe_callB c_len (by rfl) T.n_len b_len (pa_cons (pv 1) pa_nil)) pa_nil)) (blkOk_by (own := [("_law_k", 9)]) (N := ["_law_day", "_law_rows", "_law_count", "_law_way", "_law_found", "_law_row", "_law_due", "_law_sums", "_law_house", "_law_k", "_law_one", "_law_part"]) (sc := defScope s_qtold) (by decide +kernel)) (fun _ _ _ _ _ => pg_name (i := 9) sc_qtold.nd rfl (Or.inl rfl)) (fun _ _ _ _ _ => pts_one (pt_cmpR op_gt (pe_ix ix_seq (pe_ix ix_seq (pv 1) (pv 9) (fun _ _ => rfl)) pe_int (fun _ _ => rfl)) pe_int (nomark _))) (fun _ _ _ _ _ => (pe_tup (pa_cons (pv 9) (pa_cons (pe_ix ix_seq (pe_ix ix_seq (pv 1) (pv 9) (fun _ _ => rfl)) pe_int (fun _ _ => rfl)) (pa_cons (pe_ix ix_seq (pe_ix ix_seq (pv 1) (pv 9) (fun _ _ => rfl)) pe_int (fun _ _ => rfl)) (pa_cons (pe_ix ix_seq (pe_ix ix_seq (pv 1) (pv 9) (fun _ _ => rfl)) pe_int (fun _ _ => rfl)) pa_nil)))))))
      (pss_cons (ps_set (i := 4) sc_qtold.nd rfl (Or.inl rfl) (pe_meth0 (pv 0) T.day.c M_Day_standing G_Day_standing (hr.mono (by decide)) b_Day_standing .nil pass0))
      (pss_cons (ps_if (PW.pt (pw_or (pt_not (pt_val (pe_callB call_isi (by rfl) T.n_isinstance b_isinstance (pa_cons (pv 4) (pa_cons (pe_bltn (v := .ty "list") (u := .type "list") (by rfl) T.n_list b_list rfl) pa_nil))))) (pw_or1 (pt_cmpR (op_neD hr.units) (pv 4) (pv 6) (nomark _))))) (pss_one (ps_ret pe_bl)) pss_nil)
      (pss_cons (ps_for PassesOwn.never rfl (pi_list (pv 4)) (pg_name (i := 5) sc_qtold.nd rfl (Or.inl rfl)) (pss_one (ps_if (PW.pt (pw_or (pt_not (pt_val (pe_callB call_isi (by rfl) T.n_isinstance b_isinstance (pa_cons (pv 5) (pa_cons (pe_bltn (v := .ty "tuple") (u := .type "tuple") (by rfl) T.n_tuple b_tuple rfl) pa_nil))))) (pw_or1 (pt_not (pt_val (pe_callB (cr_all rfl) (by rfl) T.n_all b_all (pa_cons (pe_lc (own := [("_law_part", 11)]) (g := gName 11) (tt := tYes) rfl sc_qtold.nd (pi_tup (pv 5)) (blkOk_by (own := [("_law_part", 11)]) (N := ["_law_day", "_law_rows", "_law_count", "_law_way", "_law_found", "_law_row", "_law_due", "_law_sums", "_law_house", "_law_k", "_law_one", "_law_part"]) (sc := defScope s_qtold) (by decide +kernel)) (fun _ _ _ _ _ => pg_name (i := 11) sc_qtold.nd rfl (Or.inl rfl)) (fun _ _ _ _ _ => pts_nil) (fun _ _ _ _ _ => (pe_call G_qwhole (hr.mono (by decide)) rfl m_qwhole k_qwhole b_qwhole .nil pass0 (pa_cons (pv 11) pa_nil)))) pa_nil))))))) (pss_one (ps_ret pe_bl)) pss_nil)))
      (pss_cons (ps_expr (pe_bm PySem.F.plainAttrs_list PySem.F.slot_list_append PySem.F.type_list_append mt_append (pv 4) (pa_cons (pe_tup (pa_cons pe_int (pa_cons pe_int (pa_cons pe_int (pa_cons pe_int pa_nil))))) pa_nil)))
      (pss_one (ps_ret (pe_and (pe_cmpR (op_eqD hr.units) (pe_meth0 (pv 0) T.day.c M_Day_standing G_Day_standing (hr.mono (by decide)) b_Day_standing .nil pass0) (pv 6) (nomark _)) (pe_one (pe_cmpR op_eq (pe_callB c_len (by rfl) T.n_len b_len (pa_cons (pv 4) pa_nil)) (pe_op op_add (pe_callB c_len (by rfl) T.n_len b_len (pa_cons (pv 6) pa_nil)) pe_int) (nomark _))))))))))) pss_nil)
      (pss_cons (ps_setLc (i := 7) (own := [("_law_house", 8)]) (g := gName 8) (tt := tYes) rfl sc_qtold.nd rfl rfl (sw_true rfl rfl rfl (by decide +kernel)) (pi_range1 rfl T.n_range (pa_cons (pv 2) pa_nil)) (blkOk_by (own := [("_law_house", 8)]) (N := ["_law_day", "_law_rows", "_law_count", "_law_way", "_law_found", "_law_row", "_law_due", "_law_sums", "_law_house", "_law_k", "_law_one", "_law_part"]) (sc := defScope s_qtold) (by decide +kernel)) (fun _ _ _ _ _ => pg_name (i := 8) sc_qtold.nd rfl (Or.inl rfl)) (fun _ _ _ _ _ => pts_nil) (fun _ _ _ _ _ => pe_int))
      (pss_cons (ps_for PassesOwn.never rfl (pi_list (pv 1)) (pg_name (i := 5) sc_qtold.nd rfl (Or.inl rfl)) (pss_cons (ps_asg (pe_op op_sub (pe_ix ix_seq (pv 7) (pe_ix ix_seq (pv 5) pe_int (fun _ _ => rfl)) (fun _ _ => rfl)) (pe_ix ix_seq (pv 5) pe_int (fun _ _ => rfl))) (pg_sub (pv 7) (pe_ix ix_seq (pv 5) pe_int (fun _ _ => rfl)) set_list))
      (pss_one (ps_asg (pe_op op_add (pe_ix ix_seq (pv 7) (pe_ix ix_seq (pv 5) pe_int (fun _ _ => rfl)) (fun _ _ => rfl)) (pe_ix ix_seq (pv 5) pe_int (fun _ _ => rfl))) (pg_sub (pv 7) (pe_ix ix_seq (pv 5) pe_int (fun _ _ => rfl)) set_list)))))
      (pss_cons (ps_setLc (i := 4) (own := [("_law_house", 8)]) (g := gName 8) (tt := tYes) rfl sc_qtold.nd rfl rfl (sw_true rfl rfl rfl (by decide +kernel)) (pi_range1 rfl T.n_range (pa_cons (pv 2) pa_nil)) (blkOk_by (own := [("_law_house", 8)]) (N := ["_law_day", "_law_rows", "_law_count", "_law_way", "_law_found", "_law_row", "_law_due", "_law_sums", "_law_house", "_law_k", "_law_one", "_law_part"]) (sc := defScope s_qtold) (by decide +kernel)) (fun _ _ _ _ _ => pg_name (i := 8) sc_qtold.nd rfl (Or.inl rfl)) (fun _ _ _ _ _ => pts_nil) (fun _ _ _ _ _ => (pe_meth (pv 0) T.day.c M_Day_balance G_Day_balance (hr.mono (by decide)) b_Day_balance .nil passN (pa_cons (pv 8) pa_nil))))
      (pss_one (ps_ret (pe_and (pe_cmpR (op_eqD hr.units) (pv 4) (pv 7) (nomark _)) (pe_one (pe_callB (cr_all rfl) (by rfl) T.n_all b_all (pa_cons (pe_lc (own := [("_law_one", 10)]) (g := gName 10) (tt := tYes) rfl sc_qtold.nd (pi_list (pv 4)) (blkOk_by (own := [("_law_one", 10)]) (N := ["_law_day", "_law_rows", "_law_count", "_law_way", "_law_found", "_law_row", "_law_due", "_law_sums", "_law_house", "_law_k", "_law_one", "_law_part"]) (sc := defScope s_qtold) (by decide +kernel)) (fun _ _ _ _ _ => pg_name (i := 10) sc_qtold.nd rfl (Or.inl rfl)) (fun _ _ _ _ _ => pts_nil) (fun _ _ _ _ _ => (pe_call G_qwhole (hr.mono (by decide)) rfl m_qwhole k_qwhole b_qwhole .nil pass0 (pa_cons (pv 10) pa_nil)))) pa_nil))))))))))), fun M ws o h => big_qtold h⟩)
  first | (obtain ⟨rfl, _⟩ := h; rfl; done) | (obtain ⟨_, rfl, _⟩ := h; rfl; done) | (obtain ⟨_, _, rfl, _⟩ := h; rfl; done) | (obtain ⟨_, _, _, rfl, _⟩ := h; rfl; done) | (obtain ⟨_, _, _, _, rfl, _⟩ := h; rfl; done) | (obtain ⟨_, _, _, _, _, rfl, _⟩ := h; rfl; done) | (obtain ⟨_, _, _, _, _, _, rfl, _⟩ := h; rfl; done) | (obtain ⟨_, _, _, _, _, _, _, rfl, _⟩ := h; rfl; done) | (obtain ⟨_, _, _, _, _, _, _, _, rfl, _⟩ := h; rfl; done) | (obtain ⟨_, _, _, _, _, _, _, _, _, rfl, _⟩ := h; rfl; done) | (obtain ⟨_, _, _, _, _, _, _, _, _, _, rfl, _⟩ := h; rfl; done) | (obtain ⟨_, _, _, _, _, _, _, _, _, _, _, rfl, _⟩ := h; rfl; done) | (rcases h with h | h <;> (first | (obtain ⟨rfl, _⟩ := h; rfl; done) | (obtain ⟨_, rfl, _⟩ := h; rfl; done) | (obtain ⟨_, _, rfl, _⟩ := h; rfl; done) | (obtain ⟨_, _, _, rfl, _⟩ := h; rfl; done) | (obtain ⟨_, _, _, _, rfl, _⟩ := h; rfl; done) | (obtain ⟨_, _, _, _, _, rfl, _⟩ := h; rfl; done) | (obtain ⟨_, _, _, _, _, _, rfl, _⟩ := h; rfl; done) | (obtain ⟨_, _, _, _, _, _, _, rfl, _⟩ := h; rfl; done) | (obtain ⟨_, _, _, _, _, _, _, _, rfl, _⟩ := h; rfl; done) | (obtain ⟨_, _, _, _, _, _, _, _, _, rfl, _⟩ := h; rfl; done) | (obtain ⟨_, _, _, _, _, _, _, _, _, _, rfl, _⟩ := h; rfl; done) | (obtain ⟨_, _, _, _, _, _, _, _, _, _, _, rfl, _⟩ := h; rfl; done)))
theorem ok_qstands (T : Txt K mg X t_MOST t_MOST_HOUSES) {f : Addr} {fd : FuncData} (D : DefAt K mg "_law_stands" s_qstands ["_law_day", "_law_rows", "_law_count", "_law_cell"] f fd)
    (c_qtold : Cal P wd K mg base CX0 4 "_law_told" ["_law_day", "_law_rows", "_law_count", "_law_way"] (spOf K (T_qtold X))) :
    FnOk P wd K mg base CX0 5 f fd ["_law_day", "_law_rows", "_law_count", "_law_cell"] (spOf K (T_qstands X)) := by
  obtain ⟨f_qtold, fd_qtold, G_qtold, m_qtold, k_qtold, b_qtold⟩ := c_qtold.ex
  refine fn_ok D.F sc_qstands (fun M ws o h => ?_) (fun cdv A outer s H E hr => ⟨_, (pss_cons (ps_set (i := 4) sc_qstands.nd rfl (Or.inl rfl) (pe_lst (pa_cons (pe_lst (pa_cons pe_int (pa_cons pe_int (pa_cons pe_int pa_nil)))) (pa_cons (pe_lst (pa_cons pe_int (pa_cons pe_int (pa_cons pe_int pa_nil)))) (pa_cons (pe_lst (pa_cons pe_int pa_nil)) (pa_cons (pe_lst (pa_cons pe_int pa_nil)) (pa_cons (pe_lst (pa_cons pe_int pa_nil)) (pa_cons (pe_lst (pa_cons pe_int (pa_cons pe_int (pa_cons pe_int pa_nil)))) (pa_cons (pe_lst pa_nil) (pa_cons (pe_lst (pa_cons pe_int (pa_cons pe_int pa_nil))) (pa_cons (pe_lst (pa_cons pe_int (pa_cons pe_int pa_nil))) pa_nil)))))))))))
      (pss_one (ps_ret (pe_callB (cr_all rfl) (by rfl) T.n_all b_all (pa_cons (pe_lc (own := [("_law_way", 5)]) (g := gName 5) (tt := tYes) rfl sc_qstands.nd (pi_list (pe_ix ix_seq (pv 4) (pe_op op_mod (pv 3) pe_int) (fun _ _ => rfl))) (blkOk_by (own := [("_law_way", 5)]) (N := ["_law_day", "_law_rows", "_law_count", "_law_cell", "_law_ways", "_law_way"]) (sc := defScope s_qstands) (by decide +kernel)) (fun _ _ _ _ _ => pg_name (i := 5) sc_qstands.nd rfl (Or.inl rfl)) (fun _ _ _ _ _ => pts_nil) (fun _ _ _ _ _ => (pe_call G_qtold (hr.mono (by decide)) rfl m_qtold k_qtold b_qtold .nil pass0 (pa_cons (pv 0) (pa_cons (pv 1) (pa_cons (pv 2) (pa_cons (pv 5) pa_nil))))))) pa_nil))))), fun M ws o h => big_qstands h⟩)
  first | (obtain ⟨rfl, _⟩ := h; rfl; done) | (obtain ⟨_, rfl, _⟩ := h; rfl; done) | (obtain ⟨_, _, rfl, _⟩ := h; rfl; done) | (obtain ⟨_, _, _, rfl, _⟩ := h; rfl; done) | (obtain ⟨_, _, _, _, rfl, _⟩ := h; rfl; done) | (obtain ⟨_, _, _, _, _, rfl, _⟩ := h; rfl; done) | (obtain ⟨_, _, _, _, _, _, rfl, _⟩ := h; rfl; done) | (obtain ⟨_, _, _, _, _, _, _, rfl, _⟩ := h; rfl; done) | (obtain ⟨_, _, _, _, _, _, _, _, rfl, _⟩ := h; rfl; done) | (obtain ⟨_, _, _, _, _, _, _, _, _, rfl, _⟩ := h; rfl; done) | (obtain ⟨_, _, _, _, _, _, _, _, _, _, rfl, _⟩ := h; rfl; done) | (obtain ⟨_, _, _, _, _, _, _, _, _, _, _, rfl, _⟩ := h; rfl; done) | (rcases h with h | h <;> (first | (obtain ⟨rfl, _⟩ := h; rfl; done) | (obtain ⟨_, rfl, _⟩ := h; rfl; done) | (obtain ⟨_, _, rfl, _⟩ := h; rfl; done) | (obtain ⟨_, _, _, rfl, _⟩ := h; rfl; done) | (obtain ⟨_, _, _, _, rfl, _⟩ := h; rfl; done) | (obtain ⟨_, _, _, _, _, rfl, _⟩ := h; rfl; done) | (obtain ⟨_, _, _, _, _, _, rfl, _⟩ := h; rfl; done) | (obtain ⟨_, _, _, _, _, _, _, rfl, _⟩ := h; rfl; done) | (obtain ⟨_, _, _, _, _, _, _, _, rfl, _⟩ := h; rfl; done) | (obtain ⟨_, _, _, _, _, _, _, _, _, rfl, _⟩ := h; rfl; done) | (obtain ⟨_, _, _, _, _, _, _, _, _, _, rfl, _⟩ := h; rfl; done) | (obtain ⟨_, _, _, _, _, _, _, _, _, _, _, rfl, _⟩ := h; rfl; done)))
theorem ok_qno_count (T : Txt K mg X t_MOST t_MOST_HOUSES) {f : Addr} {fd : FuncData} (D : DefAt K mg "_law_no_count" s_qno_count ["_law_cell"] f fd)
    (c_Day_init : CalK P wd K mg base (L2N.CX P wd) 4 X.Day ["self", "count"] (spOf K (T_Day_init X)))
    (c_qkind : CalP P wd K mg base 1 "_law_kind" ["_law_error"] (spP K (T_qkind K X))) :
    FnOk P wd K mg base CX0 6 f fd ["_law_cell"] (spOf K T_qno_count) := by
  obtain ⟨f_Day_init, fd_Day_init, G_Day_init, M_Day_init, b_Day_init⟩ := c_Day_init.ex
  obtain ⟨f_qkind, fd_qkind, G_qkind, m_qkind, k_qkind, b_qkind⟩ := c_qkind.ex
  refine fn_ok D.F sc_qno_count (fun M ws o h => ?_) (fun cdv A outer s H E hr => ⟨_, (pss_cons (L2N.ps_try_as (i := 1) (Wout := fun _ _ _ _ => False) (tb := fun W => (tDrop (tMakeS X.Day (spOf K (T_Day_init X)) (WE W) (tCons (tOp (rIx K) (tLst (tCons (tC (.int 0)) (tCons (tUn xNeg (tC (.int 1))) (tCons (tC (.int 21)) (tCons (tC (.bl true)) (tCons (tC .non) (tCons (tC (.str "3")) (tCons (tOp xAdd (tOp xAdd (tC (.int 20)) (tOp xMod (tOp xDiv (tVar 0) (tC (.int 8))) (tC (.int 1000003)))) (tC (.int 1))) (tCons (tC (.bl false)) tNil))))))))) (tOp xMod (tVar 0) (tC (.int 8)))) tNil)))) (ts := fun a cls d => (tRet (tOp rEq (tCall (spS K (T_qkind K X) a cls d) [] E0 (tCons (tVar 1) tNil)) (tC (.str "count"))))) rfl rfl sc_qno_count.nd rfl rfl ⟨rfl, rfl, .inl T.k_DebtError⟩ takesN0 (fun W pn xe tk po => (pss_one (ps_expr (pe_makeS M_Day_init G_Day_init (hr.mono (by decide)) rfl T.k_Day b_Day_init (fun σ => L2N.passAt tk σ) (pa_cons (pe_ix ix_seq (pe_lst (pa_cons pe_int (pa_cons (pe_un un_neg pe_int) (pa_cons pe_int (pa_cons pe_bl (pa_cons pe_non (pa_cons pe_str (pa_cons (pe_op op_add (pe_op op_add pe_int (pe_op op_mod (pe_op op_fdiv (pv 0) pe_int) pe_int)) pe_int) (pa_cons pe_bl pa_nil))))))))) (pe_op op_mod (pv 0) pe_int) (fun _ _ => rfl)) pa_nil))))) (fun a oe cls d pn hz hv => (pss_one (ps_ret (pe_cmpR op_eq (pe_callQ G_qkind (L2H.roomH_of (hr.mono (by decide))) hz hv rfl m_qkind k_qkind b_qkind (pa_cons (pv 1) pa_nil)) pe_str (nomark _))))))
      (pss_one (ps_ret pe_bl))), fun M ws o h => big_qno_count T.e_BadCount h⟩)
  first | (obtain ⟨rfl, _⟩ := h; rfl; done) | (obtain ⟨_, rfl, _⟩ := h; rfl; done) | (obtain ⟨_, _, rfl, _⟩ := h; rfl; done) | (obtain ⟨_, _, _, rfl, _⟩ := h; rfl; done) | (obtain ⟨_, _, _, _, rfl, _⟩ := h; rfl; done) | (obtain ⟨_, _, _, _, _, rfl, _⟩ := h; rfl; done) | (obtain ⟨_, _, _, _, _, _, rfl, _⟩ := h; rfl; done) | (obtain ⟨_, _, _, _, _, _, _, rfl, _⟩ := h; rfl; done) | (obtain ⟨_, _, _, _, _, _, _, _, rfl, _⟩ := h; rfl; done) | (obtain ⟨_, _, _, _, _, _, _, _, _, rfl, _⟩ := h; rfl; done) | (obtain ⟨_, _, _, _, _, _, _, _, _, _, rfl, _⟩ := h; rfl; done) | (obtain ⟨_, _, _, _, _, _, _, _, _, _, _, rfl, _⟩ := h; rfl; done) | (rcases h with h | h <;> (first | (obtain ⟨rfl, _⟩ := h; rfl; done) | (obtain ⟨_, rfl, _⟩ := h; rfl; done) | (obtain ⟨_, _, rfl, _⟩ := h; rfl; done) | (obtain ⟨_, _, _, rfl, _⟩ := h; rfl; done) | (obtain ⟨_, _, _, _, rfl, _⟩ := h; rfl; done) | (obtain ⟨_, _, _, _, _, rfl, _⟩ := h; rfl; done) | (obtain ⟨_, _, _, _, _, _, rfl, _⟩ := h; rfl; done) | (obtain ⟨_, _, _, _, _, _, _, rfl, _⟩ := h; rfl; done) | (obtain ⟨_, _, _, _, _, _, _, _, rfl, _⟩ := h; rfl; done) | (obtain ⟨_, _, _, _, _, _, _, _, _, rfl, _⟩ := h; rfl; done) | (obtain ⟨_, _, _, _, _, _, _, _, _, _, rfl, _⟩ := h; rfl; done) | (obtain ⟨_, _, _, _, _, _, _, _, _, _, _, rfl, _⟩ := h; rfl; done)))
theorem ok_law (T : Txt K mg X t_MOST t_MOST_HOUSES) {f : Addr} {fd : FuncData} (D : DefAt K mg "law" s_law ["_law_script"] f fd)
    (c_qstands : Cal P wd K mg base CX0 5 "_law_stands" ["_law_day", "_law_rows", "_law_count", "_law_cell"] (spOf K (T_qstands X)))
    (c_qowed : Cal P wd K mg base CX0 5 "_law_owed" ["_law_day", "_law_rows", "_law_count", "_law_cell"] (spOf K (T_qowed X)))
    (c_qpaid : Cal P wd K mg base CX0 5 "_law_paid" ["_law_day", "_law_rows", "_law_cell"] (spOf K (T_qpaid X)))
    (c_qno_number : Cal P wd K mg base CX0 4 "_law_no_number" ["_law_day", "_law_number"] (spOf K (T_qno_number X)))
    (c_qno_house : Cal P wd K mg base CX0 4 "_law_no_house" ["_law_day", "_law_house"] (spOf K (T_qno_house X)))
    (c_Day_standing : CalM P wd K mg base CX0 1 X.Day "standing" ["self"] (spOf K (T_Day_standing X)))
    (c_Day_init : CalK P wd K mg base (L2N.CX P wd) 4 X.Day ["self", "count"] (spOf K (T_Day_init X)))
    (c_qno_count : Cal P wd K mg base CX0 6 "_law_no_count" ["_law_cell"] (spOf K T_qno_count))
    (c_qcell_at : Cal P wd K mg base CX0 1 "_law_cell_at" ["_law_script", "_law_k"] (spOf K T_qcell_at)) :
    FnOk P wd K mg base CX0 7 f fd ["_law_script"] (spOf K T_law10) := by
  obtain ⟨f_qstands, fd_qstands, G_qstands, m_qstands, k_qstands, b_qstands⟩ := c_qstands.ex
  obtain ⟨f_qowed, fd_qowed, G_qowed, m_qowed, k_qowed, b_qowed⟩ := c_qowed.ex
  obtain ⟨f_qpaid, fd_qpaid, G_qpaid, m_qpaid, k_qpaid, b_qpaid⟩ := c_qpaid.ex
  obtain ⟨f_qno_number, fd_qno_number, G_qno_number, m_qno_number, k_qno_number, b_qno_number⟩ := c_qno_number.ex
  obtain ⟨f_qno_house, fd_qno_house, G_qno_house, m_qno_house, k_qno_house, b_qno_house⟩ := c_qno_house.ex
  obtain ⟨f_Day_standing, fd_Day_standing, G_Day_standing, M_Day_standing, b_Day_standing⟩ := c_Day_standing.ex
  obtain ⟨f_Day_init, fd_Day_init, G_Day_init, M_Day_init, b_Day_init⟩ := c_Day_init.ex
  obtain ⟨f_qno_count, fd_qno_count, G_qno_count, m_qno_count, k_qno_count, b_qno_count⟩ := c_qno_count.ex
  obtain ⟨f_qcell_at, fd_qcell_at, G_qcell_at, m_qcell_at, k_qcell_at, b_qcell_at⟩ := c_qcell_at.ex
  refine fn_ok D.F sc_law (fun M ws o h => ?_) (fun cdv A outer s H E hr => ⟨_, (pss_cons (ps_set (i := 1) sc_law.nd rfl (Or.inl rfl) (pe_lst (pa_cons (pe_op op_add pe_int (pe_op op_mod (pe_call G_qcell_at (hr.mono (by decide)) rfl m_qcell_at k_qcell_at b_qcell_at .nil pass0 (pa_cons (pv 0) (pa_cons pe_int pa_nil))) pe_int)) (pa_cons (pe_op op_add pe_int (pe_op op_mod (pe_call G_qcell_at (hr.mono (by decide)) rfl m_qcell_at k_qcell_at b_qcell_at .nil pass0 (pa_cons (pv 0) (pa_cons pe_int pa_nil))) pe_int)) pa_nil))))
      (pss_cons (ps_if (PW.pt (pw_and (pt_cmpR op_eq (pe_op op_mod (pe_op op_fdiv (pe_call G_qcell_at (hr.mono (by decide)) rfl m_qcell_at k_qcell_at b_qcell_at .nil pass0 (pa_cons (pv 0) (pa_cons pe_int pa_nil))) pe_int) pe_int) pe_int (nomark _)) (pw_and1 (pt_not (pt_val (pe_call G_qno_count (hr.mono (by decide)) rfl m_qno_count k_qno_count b_qno_count .nil pass0 (pa_cons (pe_op op_fdiv (pe_call G_qcell_at (hr.mono (by decide)) rfl m_qcell_at k_qcell_at b_qcell_at .nil pass0 (pa_cons (pv 0) (pa_cons pe_int pa_nil))) pe_int) pa_nil))))))) (pss_one (ps_ret pe_bl)) pss_nil)
      (pss_cons (ps_set (i := 2) sc_law.nd rfl (Or.inl rfl) (pe_lst (pa_cons (pe_make M_Day_init G_Day_init (hr.mono (by decide)) rfl T.k_Day b_Day_init .nil passN (pa_cons (pe_ix ix_seq (pv 1) pe_int (fun _ _ => rfl)) pa_nil)) (pa_cons (pe_make M_Day_init G_Day_init (hr.mono (by decide)) rfl T.k_Day b_Day_init .nil passN (pa_cons (pe_ix ix_seq (pv 1) pe_int (fun _ _ => rfl)) pa_nil)) pa_nil))))
      (pss_cons (ps_set (i := 3) sc_law.nd rfl (Or.inl rfl) (pe_lst (pa_cons (pe_lst pa_nil) (pa_cons (pe_lst pa_nil) pa_nil))))
      (pss_cons (ps_set (i := 4) sc_law.nd rfl (Or.inl rfl) (pe_lst pa_nil))
      (pss_cons (ps_for PassesOwn.never rfl (pi_list (pe_slice sl_list (pv 0) (po_some pe_int) (po_some pe_int))) (pg_name (i := 5) sc_law.nd rfl (Or.inl rfl)) (pss_cons (ps_set (i := 6) sc_law.nd rfl (Or.inl rfl) (pe_callTy c_int (by rfl) T.n_int b_int (pa_cons (pe_cmpR op_eq (pe_op op_mod (pv 5) pe_int) pe_int (nomark _)) pa_nil)))
      (pss_cons (ps_set (i := 7) sc_law.nd rfl (Or.inl rfl) (pe_op op_fdiv (pv 5) pe_int))
      (pss_cons (ps_set (i := 8) sc_law.nd rfl (Or.inl rfl) pe_bl)
      (pss_cons (ps_if (pt_cmpR op_eq (pe_op op_mod (pe_op op_fdiv (pv 7) pe_int) pe_int) pe_int (nomark _)) (pss_cons (ps_set (i := 9) sc_law.nd rfl (Or.inl rfl) (pe_meth0 (pe_ix ix_seq (pv 2) (pv 6) (fun _ _ => rfl)) T.day.c M_Day_standing G_Day_standing (hr.mono (by decide)) b_Day_standing .nil pass0))
      (pss_one (ps_expr (pe_bm PySem.F.plainAttrs_list PySem.F.slot_list_append PySem.F.type_list_append mt_append (pv 4) (pa_cons (pe_tup (pa_cons (pv 9) (pa_cons (pe_callTy c_list (by rfl) T.n_list b_list (pa_cons (pv 9) pa_nil)) pa_nil))) pa_nil))))) pss_nil)
      (pss_cons (ps_if (pt_cmpR op_lt (pe_op op_mod (pv 7) pe_int) pe_int (nomark _)) (pss_one (ps_set (i := 8) sc_law.nd rfl (Or.inl rfl) (pe_call G_qowed (hr.mono (by decide)) rfl m_qowed k_qowed b_qowed .nil pass0 (pa_cons (pe_ix ix_seq (pv 2) (pv 6) (fun _ _ => rfl)) (pa_cons (pe_ix ix_seq (pv 3) (pv 6) (fun _ _ => rfl)) (pa_cons (pe_ix ix_seq (pv 1) (pv 6) (fun _ _ => rfl)) (pa_cons (pe_op op_fdiv (pv 7) pe_int) pa_nil))))))) (pss_one (ps_if (pt_cmpR op_lt (pe_op op_mod (pv 7) pe_int) pe_int (nomark _)) (pss_one (ps_set (i := 8) sc_law.nd rfl (Or.inl rfl) (pe_call G_qpaid (hr.mono (by decide)) rfl m_qpaid k_qpaid b_qpaid .nil pass0 (pa_cons (pe_ix ix_seq (pv 2) (pv 6) (fun _ _ => rfl)) (pa_cons (pe_ix ix_seq (pv 3) (pv 6) (fun _ _ => rfl)) (pa_cons (pe_op op_fdiv (pv 7) pe_int) pa_nil)))))) (pss_cons (ps_set (i := 10) sc_law.nd rfl (Or.inl rfl) (pe_ix ix_seq (pe_lst (pa_cons (pe_un un_neg pe_int) (pa_cons (pe_ix ix_seq (pv 1) (pv 6) (fun _ _ => rfl)) (pa_cons pe_bl (pa_cons pe_non (pa_cons pe_str (pa_cons (pe_op op_add (pe_ix ix_seq (pv 1) (pv 6) (fun _ _ => rfl)) pe_int) (pa_cons pe_bl pa_nil)))))))) (pe_op op_mod (pe_op op_fdiv (pv 7) pe_int) pe_int) (fun _ _ => rfl)))
      (pss_cons (ps_set (i := 11) sc_law.nd rfl (Or.inl rfl) (pe_ix ix_seq (pe_lst (pa_cons (pe_un un_neg pe_int) (pa_cons (pe_callB c_len (by rfl) T.n_len b_len (pa_cons (pe_ix ix_seq (pv 3) (pv 6) (fun _ _ => rfl)) pa_nil)) (pa_cons pe_bl (pa_cons pe_non (pa_cons pe_bl (pa_cons (pe_op op_add (pe_callB c_len (by rfl) T.n_len b_len (pa_cons (pe_ix ix_seq (pv 3) (pv 6) (fun _ _ => rfl)) pa_nil)) pe_int) pa_nil))))))) (pe_op op_mod (pe_op op_fdiv (pv 7) pe_int) pe_int) (fun _ _ => rfl)))
      (pss_one (ps_set (i := 8) sc_law.nd rfl (Or.inl rfl) (pe_and (pe_call G_qno_house (hr.mono (by decide)) rfl m_qno_house k_qno_house b_qno_house .nil pass0 (pa_cons (pe_ix ix_seq (pv 2) (pv 6) (fun _ _ => rfl)) (pa_cons (pv 10) pa_nil))) (pe_one (pe_call G_qno_number (hr.mono (by decide)) rfl m_qno_number k_qno_number b_qno_number .nil pass0 (pa_cons (pe_ix ix_seq (pv 2) (pv 6) (fun _ _ => rfl)) (pa_cons (pv 11) pa_nil))))))))))))
      (pss_one (ps_if (PW.pt (pw_or (pt_not (pt_val (pv 8))) (pw_or1 (pt_not (pt_val (pe_call G_qstands (hr.mono (by decide)) rfl m_qstands k_qstands b_qstands .nil pass0 (pa_cons (pe_ix ix_seq (pv 2) (pv 6) (fun _ _ => rfl)) (pa_cons (pe_ix ix_seq (pv 3) (pv 6) (fun _ _ => rfl)) (pa_cons (pe_ix ix_seq (pv 1) (pv 6) (fun _ _ => rfl)) (pa_cons (pe_op op_fdiv (pv 7) pe_int) pa_nil)))))))))) (pss_one (ps_ret pe_bl)) pss_nil))))))))
      (pss_cons (ps_if (PW.pt (pw_or (pt_not (pt_val (pe_call G_qstands (hr.mono (by decide)) rfl m_qstands k_qstands b_qstands .nil pass0 (pa_cons (pe_ix ix_seq (pv 2) pe_int (fun _ _ => rfl)) (pa_cons (pe_ix ix_seq (pv 3) pe_int (fun _ _ => rfl)) (pa_cons (pe_ix ix_seq (pv 1) pe_int (fun _ _ => rfl)) (pa_cons pe_int pa_nil))))))) (pw_or1 (pt_not (pt_val (pe_call G_qstands (hr.mono (by decide)) rfl m_qstands k_qstands b_qstands .nil pass0 (pa_cons (pe_ix ix_seq (pv 2) pe_int (fun _ _ => rfl)) (pa_cons (pe_ix ix_seq (pv 3) pe_int (fun _ _ => rfl)) (pa_cons (pe_ix ix_seq (pv 1) pe_int (fun _ _ => rfl)) (pa_cons pe_int pa_nil)))))))))) (pss_one (ps_ret pe_bl)) pss_nil)
      (pss_one (ps_ret (pe_cmpR (op_eqD hr.units) (pe_lc (own := [("_law_pair", 12)]) (g := gName 12) (tt := (tTest (tOp (rNeD K) (tOp (rIx K) (tVar 12) (tC (.int 0))) (tOp (rIx K) (tVar 12) (tC (.int 1)))))) rfl sc_law.nd (pi_list (pv 4)) (blkOk_by (own := [("_law_pair", 12)]) (N := ["_law_script", "_law_counts", "_law_days", "_law_rows", "_law_held", "_law_cell", "_law_at", "_law_more", "_law_good", "_law_told_here", "_law_house", "_law_number", "_law_pair"]) (sc := defScope s_law) (by decide +kernel)) (fun _ _ _ _ _ => pg_name (i := 12) sc_law.nd rfl (Or.inl rfl)) (fun _ _ _ _ _ => pts_one (pt_cmpR (op_neD hr.units) (pe_ix ix_seq (pv 12) pe_int (fun _ _ => rfl)) (pe_ix ix_seq (pv 12) pe_int (fun _ _ => rfl)) (nomark _))) (fun _ _ _ _ _ => (pv 12))) (pe_lst pa_nil) (nomark _))))))))))), fun M ws o h => big_law10 h⟩)
  first | (obtain ⟨rfl, _⟩ := h; rfl; done) | (obtain ⟨_, rfl, _⟩ := h; rfl; done) | (obtain ⟨_, _, rfl, _⟩ := h; rfl; done) | (obtain ⟨_, _, _, rfl, _⟩ := h; rfl; done) | (obtain ⟨_, _, _, _, rfl, _⟩ := h; rfl; done) | (obtain ⟨_, _, _, _, _, rfl, _⟩ := h; rfl; done) | (obtain ⟨_, _, _, _, _, _, rfl, _⟩ := h; rfl; done) | (obtain ⟨_, _, _, _, _, _, _, rfl, _⟩ := h; rfl; done) | (obtain ⟨_, _, _, _, _, _, _, _, rfl, _⟩ := h; rfl; done) | (obtain ⟨_, _, _, _, _, _, _, _, _, rfl, _⟩ := h; rfl; done) | (obtain ⟨_, _, _, _, _, _, _, _, _, _, rfl, _⟩ := h; rfl; done) | (obtain ⟨_, _, _, _, _, _, _, _, _, _, _, rfl, _⟩ := h; rfl; done) | (rcases h with h | h <;> (first | (obtain ⟨rfl, _⟩ := h; rfl; done) | (obtain ⟨_, rfl, _⟩ := h; rfl; done) | (obtain ⟨_, _, rfl, _⟩ := h; rfl; done) | (obtain ⟨_, _, _, rfl, _⟩ := h; rfl; done) | (obtain ⟨_, _, _, _, rfl, _⟩ := h; rfl; done) | (obtain ⟨_, _, _, _, _, rfl, _⟩ := h; rfl; done) | (obtain ⟨_, _, _, _, _, _, rfl, _⟩ := h; rfl; done) | (obtain ⟨_, _, _, _, _, _, _, rfl, _⟩ := h; rfl; done) | (obtain ⟨_, _, _, _, _, _, _, _, rfl, _⟩ := h; rfl; done) | (obtain ⟨_, _, _, _, _, _, _, _, _, rfl, _⟩ := h; rfl; done) | (obtain ⟨_, _, _, _, _, _, _, _, _, _, rfl, _⟩ := h; rfl; done) | (obtain ⟨_, _, _, _, _, _, _, _, _, _, _, rfl, _⟩ := h; rfl; done)))
end
theorem fin {P : Program} {w : World} {K : PySem.W.Frag} {h : Heap} {mg : Str → Option Value} {fa : Addr} (KX : K.In h) (Gn : h.Ns mainGlobals mg) (hfa : mg "law" = some (.ref fa)) {t_MOST t_MOST_HOUSES : Tok} {y_BadAmount y_BadCount y_BadCut y_BadDebt y_BadPrices y_Day y_DebtError y_NoDebt y_NoHouse y_NotBest y_Uneven : Addr}
    (n_ValueError : PySem.W.nsIn K mainGlobals "ValueError" = some none)
    (n_all : PySem.W.nsIn K mainGlobals "all" = some none)
    (n_bool : PySem.W.nsIn K mainGlobals "bool" = some none)
    (n_int : PySem.W.nsIn K mainGlobals "int" = some none)
    (n_isinstance : PySem.W.nsIn K mainGlobals "isinstance" = some none)
    (n_len : PySem.W.nsIn K mainGlobals "len" = some none)
    (n_list : PySem.W.nsIn K mainGlobals "list" = some none)
    (n_range : PySem.W.nsIn K mainGlobals "range" = some none)
    (n_tuple : PySem.W.nsIn K mainGlobals "tuple" = some none)
    (g_MOST : PySem.W.nsIn K mainGlobals "MOST" = some (some (.int 1000000000 t_MOST)))
    (g_MOST_HOUSES : PySem.W.nsIn K mainGlobals "MOST_HOUSES" = some (some (.int 20 t_MOST_HOUSES)))
    (xg_BadAmount : PySem.W.nsIn K mainGlobals "BadAmount" = some (some (.ref y_BadAmount)))
    (xg_BadCount : PySem.W.nsIn K mainGlobals "BadCount" = some (some (.ref y_BadCount)))
    (xg_BadCut : PySem.W.nsIn K mainGlobals "BadCut" = some (some (.ref y_BadCut)))
    (xg_BadDebt : PySem.W.nsIn K mainGlobals "BadDebt" = some (some (.ref y_BadDebt)))
    (xg_BadPrices : PySem.W.nsIn K mainGlobals "BadPrices" = some (some (.ref y_BadPrices)))
    (xg_Day : PySem.W.nsIn K mainGlobals "Day" = some (some (.ref y_Day)))
    (xg_DebtError : PySem.W.nsIn K mainGlobals "DebtError" = some (some (.ref y_DebtError)))
    (xg_NoDebt : PySem.W.nsIn K mainGlobals "NoDebt" = some (some (.ref y_NoDebt)))
    (xg_NoHouse : PySem.W.nsIn K mainGlobals "NoHouse" = some (some (.ref y_NoHouse)))
    (xg_NotBest : PySem.W.nsIn K mainGlobals "NotBest" = some (some (.ref y_NotBest)))
    (xg_Uneven : PySem.W.nsIn K mainGlobals "Uneven" = some (some (.ref y_Uneven)))
    (xx_BadAmount : PySem.W.excIn K y_BadAmount [.type "ValueError", .type "Exception", .type "BaseException", .type "object"] "ValueError.__new__" = true)
    (xk_BadAmount : PySem.W.keepIn K (.ref y_BadAmount) = true)
    (xx_BadCount : PySem.W.excIn K y_BadCount [.type "ValueError", .type "Exception", .type "BaseException", .type "object"] "ValueError.__new__" = true)
    (xk_BadCount : PySem.W.keepIn K (.ref y_BadCount) = true)
    (xx_BadDebt : PySem.W.excIn K y_BadDebt [.type "ValueError", .type "Exception", .type "BaseException", .type "object"] "ValueError.__new__" = true)
    (xk_BadDebt : PySem.W.keepIn K (.ref y_BadDebt) = true)
    (xx_NoDebt : PySem.W.excIn K y_NoDebt [.type "ValueError", .type "Exception", .type "BaseException", .type "object"] "ValueError.__new__" = true)
    (xk_NoDebt : PySem.W.keepIn K (.ref y_NoDebt) = true)
    (xx_NoHouse : PySem.W.excIn K y_NoHouse [.type "ValueError", .type "Exception", .type "BaseException", .type "object"] "ValueError.__new__" = true)
    (xk_NoHouse : PySem.W.keepIn K (.ref y_NoHouse) = true)
    (xb_BadAmount : PySem.W.subIn K (.ref y_BadAmount) (.type "BaseException") = some true)
    (xb_BadCount : PySem.W.subIn K (.ref y_BadCount) (.type "BaseException") = some true)
    (xb_BadDebt : PySem.W.subIn K (.ref y_BadDebt) (.type "BaseException") = some true)
    (xb_DebtError : PySem.W.subIn K (.ref y_DebtError) (.type "BaseException") = some true)
    (xb_NoDebt : PySem.W.subIn K (.ref y_NoDebt) (.type "BaseException") = some true)
    (xb_NoHouse : PySem.W.subIn K (.ref y_NoHouse) (.type "BaseException") = some true)
    (xt_BadAmount : PySem.W.typeIn K (.ref y_BadAmount) = some (.type "type"))
    (xt_BadCount : PySem.W.typeIn K (.ref y_BadCount) = some (.type "type"))
    (xt_BadCut : PySem.W.typeIn K (.ref y_BadCut) = some (.type "type"))
    (xt_BadDebt : PySem.W.typeIn K (.ref y_BadDebt) = some (.type "type"))
    (xt_BadPrices : PySem.W.typeIn K (.ref y_BadPrices) = some (.type "type"))
    (xt_DebtError : PySem.W.typeIn K (.ref y_DebtError) = some (.type "type"))
    (xt_NoDebt : PySem.W.typeIn K (.ref y_NoDebt) = some (.type "type"))
    (xt_NoHouse : PySem.W.typeIn K (.ref y_NoHouse) = some (.type "type"))
    (xt_NotBest : PySem.W.typeIn K (.ref y_NotBest) = some (.type "type"))
    (xt_Uneven : PySem.W.typeIn K (.ref y_Uneven) = some (.type "type"))
    (kd_BadAmount : PySem.W.hasDictIn K y_BadAmount = true)
    (kd_BadCount : PySem.W.hasDictIn K y_BadCount = true)
    (kd_BadCut : PySem.W.hasDictIn K y_BadCut = true)
    (kd_BadDebt : PySem.W.hasDictIn K y_BadDebt = true)
    (kd_BadPrices : PySem.W.hasDictIn K y_BadPrices = true)
    (kd_DebtError : PySem.W.hasDictIn K y_DebtError = true)
    (kd_NoDebt : PySem.W.hasDictIn K y_NoDebt = true)
    (kd_NoHouse : PySem.W.hasDictIn K y_NoHouse = true)
    (kd_NotBest : PySem.W.hasDictIn K y_NotBest = true)
    (kd_Uneven : PySem.W.hasDictIn K y_Uneven = true)
    (dy_pg : PySem.W.plainGet K y_Day Str.empty = true)
    (dy_hd : PySem.W.hasDictIn K y_Day = true)
    (dy_po : PySem.W.plainOver K y_Day = true)
    (dy_sa : PySem.W.findIn K (.ref y_Day) "__setattr__" = some (some (.builtin "object.__setattr__")))
    (dy_mk : PySem.W.makesIn K y_Day = true)
    (dy_kc : PySem.W.keepIn K (.ref y_Day) = true)
    (dy_houses : PySem.W.findIn K (.ref y_Day) "houses" = some none)
    (dy_came : PySem.W.findIn K (.ref y_Day) "came" = some none)
    (dy_rests : PySem.W.findIn K (.ref y_Day) "rests" = some none)
    (en : PySem.W.specialIn K (.builtin "object.__class__") "__get__" = some (some (.builtin "getset_descriptor.__get__")))
    (et : PySem.W.takesIn K (.builtin "object.__class__") = some true)
    (eg_BadAmount : PySem.W.findIn K (.ref y_BadAmount) "__getattribute__" = some (some (.builtin "BaseException.__getattribute__")))
    (ek_BadAmount : PySem.W.findIn K (.ref y_BadAmount) "__getattr__" = some none)
    (ea_BadAmount : PySem.W.findIn K (.ref y_BadAmount) "__class__" = some (some (.builtin "object.__class__")))
    (em_BadAmount : PySem.W.mroIn K y_BadAmount (.type "object") = some true)
    (ed_BadAmount : PySem.W.subIn K (.ref y_BadAmount) (.ref y_DebtError) = some true)
    (ev_BadAmount : PySem.W.subIn K (.ref y_BadAmount) (.type "ValueError") = some true)
    (es_BadAmount_BadCount : PySem.W.subIn K (.ref y_BadAmount) (.ref y_BadCount) = some false)
    (eq_BadAmount_BadCount : y_BadAmount ≠ y_BadCount)
    (es_BadAmount_BadDebt : PySem.W.subIn K (.ref y_BadAmount) (.ref y_BadDebt) = some false)
    (eq_BadAmount_BadDebt : y_BadAmount ≠ y_BadDebt)
    (es_BadAmount_BadCut : PySem.W.subIn K (.ref y_BadAmount) (.ref y_BadCut) = some false)
    (eq_BadAmount_BadCut : y_BadAmount ≠ y_BadCut)
    (es_BadAmount_Uneven : PySem.W.subIn K (.ref y_BadAmount) (.ref y_Uneven) = some false)
    (eq_BadAmount_Uneven : y_BadAmount ≠ y_Uneven)
    (es_BadAmount_BadPrices : PySem.W.subIn K (.ref y_BadAmount) (.ref y_BadPrices) = some false)
    (eq_BadAmount_BadPrices : y_BadAmount ≠ y_BadPrices)
    (es_BadAmount_NotBest : PySem.W.subIn K (.ref y_BadAmount) (.ref y_NotBest) = some false)
    (eq_BadAmount_NotBest : y_BadAmount ≠ y_NotBest)
    (es_BadAmount_NoDebt : PySem.W.subIn K (.ref y_BadAmount) (.ref y_NoDebt) = some false)
    (eq_BadAmount_NoDebt : y_BadAmount ≠ y_NoDebt)
    (es_BadAmount_NoHouse : PySem.W.subIn K (.ref y_BadAmount) (.ref y_NoHouse) = some false)
    (eq_BadAmount_NoHouse : y_BadAmount ≠ y_NoHouse)
    (eg_BadCount : PySem.W.findIn K (.ref y_BadCount) "__getattribute__" = some (some (.builtin "BaseException.__getattribute__")))
    (ek_BadCount : PySem.W.findIn K (.ref y_BadCount) "__getattr__" = some none)
    (ea_BadCount : PySem.W.findIn K (.ref y_BadCount) "__class__" = some (some (.builtin "object.__class__")))
    (em_BadCount : PySem.W.mroIn K y_BadCount (.type "object") = some true)
    (ed_BadCount : PySem.W.subIn K (.ref y_BadCount) (.ref y_DebtError) = some true)
    (ev_BadCount : PySem.W.subIn K (.ref y_BadCount) (.type "ValueError") = some true)
    (es_BadCount_BadDebt : PySem.W.subIn K (.ref y_BadCount) (.ref y_BadDebt) = some false)
    (eq_BadCount_BadDebt : y_BadCount ≠ y_BadDebt)
    (es_BadCount_BadCut : PySem.W.subIn K (.ref y_BadCount) (.ref y_BadCut) = some false)
    (eq_BadCount_BadCut : y_BadCount ≠ y_BadCut)
    (es_BadCount_Uneven : PySem.W.subIn K (.ref y_BadCount) (.ref y_Uneven) = some false)
    (eq_BadCount_Uneven : y_BadCount ≠ y_Uneven)
    (es_BadCount_BadPrices : PySem.W.subIn K (.ref y_BadCount) (.ref y_BadPrices) = some false)
    (eq_BadCount_BadPrices : y_BadCount ≠ y_BadPrices)
    (es_BadCount_NotBest : PySem.W.subIn K (.ref y_BadCount) (.ref y_NotBest) = some false)
    (eq_BadCount_NotBest : y_BadCount ≠ y_NotBest)
    (es_BadCount_NoDebt : PySem.W.subIn K (.ref y_BadCount) (.ref y_NoDebt) = some false)
    (eq_BadCount_NoDebt : y_BadCount ≠ y_NoDebt)
    (es_BadCount_NoHouse : PySem.W.subIn K (.ref y_BadCount) (.ref y_NoHouse) = some false)
    (eq_BadCount_NoHouse : y_BadCount ≠ y_NoHouse)
    (es_BadCount_BadAmount : PySem.W.subIn K (.ref y_BadCount) (.ref y_BadAmount) = some false)
    (eq_BadCount_BadAmount : y_BadCount ≠ y_BadAmount)
    (eg_BadDebt : PySem.W.findIn K (.ref y_BadDebt) "__getattribute__" = some (some (.builtin "BaseException.__getattribute__")))
    (ek_BadDebt : PySem.W.findIn K (.ref y_BadDebt) "__getattr__" = some none)
    (ea_BadDebt : PySem.W.findIn K (.ref y_BadDebt) "__class__" = some (some (.builtin "object.__class__")))
    (em_BadDebt : PySem.W.mroIn K y_BadDebt (.type "object") = some true)
    (ed_BadDebt : PySem.W.subIn K (.ref y_BadDebt) (.ref y_DebtError) = some true)
    (ev_BadDebt : PySem.W.subIn K (.ref y_BadDebt) (.type "ValueError") = some true)
    (es_BadDebt_BadCount : PySem.W.subIn K (.ref y_BadDebt) (.ref y_BadCount) = some false)
    (eq_BadDebt_BadCount : y_BadDebt ≠ y_BadCount)
    (es_BadDebt_BadCut : PySem.W.subIn K (.ref y_BadDebt) (.ref y_BadCut) = some false)
    (eq_BadDebt_BadCut : y_BadDebt ≠ y_BadCut)
    (es_BadDebt_Uneven : PySem.W.subIn K (.ref y_BadDebt) (.ref y_Uneven) = some false)
    (eq_BadDebt_Uneven : y_BadDebt ≠ y_Uneven)
    (es_BadDebt_BadPrices : PySem.W.subIn K (.ref y_BadDebt) (.ref y_BadPrices) = some false)
    (eq_BadDebt_BadPrices : y_BadDebt ≠ y_BadPrices)
    (es_BadDebt_NotBest : PySem.W.subIn K (.ref y_BadDebt) (.ref y_NotBest) = some false)
    (eq_BadDebt_NotBest : y_BadDebt ≠ y_NotBest)
    (es_BadDebt_NoDebt : PySem.W.subIn K (.ref y_BadDebt) (.ref y_NoDebt) = some false)
    (eq_BadDebt_NoDebt : y_BadDebt ≠ y_NoDebt)
    (es_BadDebt_NoHouse : PySem.W.subIn K (.ref y_BadDebt) (.ref y_NoHouse) = some false)
    (eq_BadDebt_NoHouse : y_BadDebt ≠ y_NoHouse)
    (es_BadDebt_BadAmount : PySem.W.subIn K (.ref y_BadDebt) (.ref y_BadAmount) = some false)
    (eq_BadDebt_BadAmount : y_BadDebt ≠ y_BadAmount)
    (eg_NoDebt : PySem.W.findIn K (.ref y_NoDebt) "__getattribute__" = some (some (.builtin "BaseException.__getattribute__")))
    (ek_NoDebt : PySem.W.findIn K (.ref y_NoDebt) "__getattr__" = some none)
    (ea_NoDebt : PySem.W.findIn K (.ref y_NoDebt) "__class__" = some (some (.builtin "object.__class__")))
    (em_NoDebt : PySem.W.mroIn K y_NoDebt (.type "object") = some true)
    (ed_NoDebt : PySem.W.subIn K (.ref y_NoDebt) (.ref y_DebtError) = some true)
    (ev_NoDebt : PySem.W.subIn K (.ref y_NoDebt) (.type "ValueError") = some true)
    (es_NoDebt_BadCount : PySem.W.subIn K (.ref y_NoDebt) (.ref y_BadCount) = some false)
    (eq_NoDebt_BadCount : y_NoDebt ≠ y_BadCount)
    (es_NoDebt_BadDebt : PySem.W.subIn K (.ref y_NoDebt) (.ref y_BadDebt) = some false)
    (eq_NoDebt_BadDebt : y_NoDebt ≠ y_BadDebt)
    (es_NoDebt_BadCut : PySem.W.subIn K (.ref y_NoDebt) (.ref y_BadCut) = some false)
    (eq_NoDebt_BadCut : y_NoDebt ≠ y_BadCut)
    (es_NoDebt_Uneven : PySem.W.subIn K (.ref y_NoDebt) (.ref y_Uneven) = some false)
    (eq_NoDebt_Uneven : y_NoDebt ≠ y_Uneven)
    (es_NoDebt_BadPrices : PySem.W.subIn K (.ref y_NoDebt) (.ref y_BadPrices) = some false)
    (eq_NoDebt_BadPrices : y_NoDebt ≠ y_BadPrices)
    (es_NoDebt_NotBest : PySem.W.subIn K (.ref y_NoDebt) (.ref y_NotBest) = some false)
    (eq_NoDebt_NotBest : y_NoDebt ≠ y_NotBest)
    (es_NoDebt_NoHouse : PySem.W.subIn K (.ref y_NoDebt) (.ref y_NoHouse) = some false)
    (eq_NoDebt_NoHouse : y_NoDebt ≠ y_NoHouse)
    (es_NoDebt_BadAmount : PySem.W.subIn K (.ref y_NoDebt) (.ref y_BadAmount) = some false)
    (eq_NoDebt_BadAmount : y_NoDebt ≠ y_BadAmount)
    (eg_NoHouse : PySem.W.findIn K (.ref y_NoHouse) "__getattribute__" = some (some (.builtin "BaseException.__getattribute__")))
    (ek_NoHouse : PySem.W.findIn K (.ref y_NoHouse) "__getattr__" = some none)
    (ea_NoHouse : PySem.W.findIn K (.ref y_NoHouse) "__class__" = some (some (.builtin "object.__class__")))
    (em_NoHouse : PySem.W.mroIn K y_NoHouse (.type "object") = some true)
    (ed_NoHouse : PySem.W.subIn K (.ref y_NoHouse) (.ref y_DebtError) = some true)
    (ev_NoHouse : PySem.W.subIn K (.ref y_NoHouse) (.type "ValueError") = some true)
    (es_NoHouse_BadCount : PySem.W.subIn K (.ref y_NoHouse) (.ref y_BadCount) = some false)
    (eq_NoHouse_BadCount : y_NoHouse ≠ y_BadCount)
    (es_NoHouse_BadDebt : PySem.W.subIn K (.ref y_NoHouse) (.ref y_BadDebt) = some false)
    (eq_NoHouse_BadDebt : y_NoHouse ≠ y_BadDebt)
    (es_NoHouse_BadCut : PySem.W.subIn K (.ref y_NoHouse) (.ref y_BadCut) = some false)
    (eq_NoHouse_BadCut : y_NoHouse ≠ y_BadCut)
    (es_NoHouse_Uneven : PySem.W.subIn K (.ref y_NoHouse) (.ref y_Uneven) = some false)
    (eq_NoHouse_Uneven : y_NoHouse ≠ y_Uneven)
    (es_NoHouse_BadPrices : PySem.W.subIn K (.ref y_NoHouse) (.ref y_BadPrices) = some false)
    (eq_NoHouse_BadPrices : y_NoHouse ≠ y_BadPrices)
    (es_NoHouse_NotBest : PySem.W.subIn K (.ref y_NoHouse) (.ref y_NotBest) = some false)
    (eq_NoHouse_NotBest : y_NoHouse ≠ y_NotBest)
    (es_NoHouse_NoDebt : PySem.W.subIn K (.ref y_NoHouse) (.ref y_NoDebt) = some false)
    (eq_NoHouse_NoDebt : y_NoHouse ≠ y_NoDebt)
    (es_NoHouse_BadAmount : PySem.W.subIn K (.ref y_NoHouse) (.ref y_BadAmount) = some false)
    (eq_NoHouse_BadAmount : y_NoHouse ≠ y_BadAmount)
    {f_is_whole : Addr} {oc_is_whole kV_is_whole dc_is_whole pm_is_whole cd_is_whole ct_is_whole : Value} {od_is_whole an_is_whole : Option Addr} {sl_is_whole : Array (Option Value)}
    (a_is_whole : PySem.W.nsIn K mainGlobals "is_whole" = some (some (.ref f_is_whole))) (l_is_whole : K.lookup f_is_whole = some ⟨oc_is_whole, od_is_whole, .func (PySem.W.fnOf "is_whole" "is_whole" (defArgs s_is_whole) (defBody s_is_whole) (defScope s_is_whole) .none kV_is_whole dc_is_whole pm_is_whole an_is_whole cd_is_whole ct_is_whole), sl_is_whole⟩) (c_is_whole : PySem.W.codeIn K cd_is_whole "is_whole" = true) (k_is_whole : PySem.W.keepIn K (.ref f_is_whole) = true)
    {f_within : Addr} {oc_within kV_within dc_within pm_within cd_within ct_within : Value} {od_within an_within : Option Addr} {sl_within : Array (Option Value)}
    (a_within : PySem.W.nsIn K mainGlobals "within" = some (some (.ref f_within))) (l_within : K.lookup f_within = some ⟨oc_within, od_within, .func (PySem.W.fnOf "within" "within" (defArgs s_within) (defBody s_within) (defScope s_within) .none kV_within dc_within pm_within an_within cd_within ct_within), sl_within⟩) (c_within : PySem.W.codeIn K cd_within "within" = true) (k_within : PySem.W.keepIn K (.ref f_within) = true)
    {f_need_count : Addr} {oc_need_count kV_need_count dc_need_count pm_need_count cd_need_count ct_need_count : Value} {od_need_count an_need_count : Option Addr} {sl_need_count : Array (Option Value)}
    (a_need_count : PySem.W.nsIn K mainGlobals "need_count" = some (some (.ref f_need_count))) (l_need_count : K.lookup f_need_count = some ⟨oc_need_count, od_need_count, .func (PySem.W.fnOf "need_count" "need_count" (defArgs s_need_count) (defBody s_need_count) (defScope s_need_count) .none kV_need_count dc_need_count pm_need_count an_need_count cd_need_count ct_need_count), sl_need_count⟩) (c_need_count : PySem.W.codeIn K cd_need_count "need_count" = true) (k_need_count : PySem.W.keepIn K (.ref f_need_count) = true)
    {f_is_debt : Addr} {oc_is_debt kV_is_debt dc_is_debt pm_is_debt cd_is_debt ct_is_debt : Value} {od_is_debt an_is_debt : Option Addr} {sl_is_debt : Array (Option Value)}
    (a_is_debt : PySem.W.nsIn K mainGlobals "is_debt" = some (some (.ref f_is_debt))) (l_is_debt : K.lookup f_is_debt = some ⟨oc_is_debt, od_is_debt, .func (PySem.W.fnOf "is_debt" "is_debt" (defArgs s_is_debt) (defBody s_is_debt) (defScope s_is_debt) .none kV_is_debt dc_is_debt pm_is_debt an_is_debt cd_is_debt ct_is_debt), sl_is_debt⟩) (c_is_debt : PySem.W.codeIn K cd_is_debt "is_debt" = true) (k_is_debt : PySem.W.keepIn K (.ref f_is_debt) = true)
    {f_balances : Addr} {oc_balances kV_balances dc_balances pm_balances cd_balances ct_balances : Value} {od_balances an_balances : Option Addr} {sl_balances : Array (Option Value)}
    (a_balances : PySem.W.nsIn K mainGlobals "balances" = some (some (.ref f_balances))) (l_balances : K.lookup f_balances = some ⟨oc_balances, od_balances, .func (PySem.W.fnOf "balances" "balances" (defArgs s_balances) (defBody s_balances) (defScope s_balances) .none kV_balances dc_balances pm_balances an_balances cd_balances ct_balances), sl_balances⟩) (c_balances : PySem.W.codeIn K cd_balances "balances" = true) (k_balances : PySem.W.keepIn K (.ref f_balances) = true)
    {f_Day_init : Addr} {oc_Day_init kV_Day_init dc_Day_init pm_Day_init cd_Day_init ct_Day_init : Value} {od_Day_init an_Day_init : Option Addr} {sl_Day_init : Array (Option Value)}
    (a_Day_init : PySem.W.findIn K (.ref y_Day) "__init__" = some (some (.ref f_Day_init))) (i_Day_init : PySem.W.isFn K (.ref f_Day_init) = true) (l_Day_init : K.lookup f_Day_init = some ⟨oc_Day_init, od_Day_init, .func (PySem.W.fnOf "__init__" "Day.__init__" (defArgs s_Day_init) (defBody s_Day_init) (defScope s_Day_init) .none kV_Day_init dc_Day_init pm_Day_init an_Day_init cd_Day_init ct_Day_init), sl_Day_init⟩) (c_Day_init : PySem.W.codeIn K cd_Day_init "Day.__init__" = true) (k_Day_init : PySem.W.keepIn K (.ref f_Day_init) = true)
    {f_Day_owe : Addr} {oc_Day_owe kV_Day_owe dc_Day_owe pm_Day_owe cd_Day_owe ct_Day_owe : Value} {od_Day_owe an_Day_owe : Option Addr} {sl_Day_owe : Array (Option Value)}
    (a_Day_owe : PySem.W.findIn K (.ref y_Day) "owe" = some (some (.ref f_Day_owe))) (i_Day_owe : PySem.W.isFn K (.ref f_Day_owe) = true) (l_Day_owe : K.lookup f_Day_owe = some ⟨oc_Day_owe, od_Day_owe, .func (PySem.W.fnOf "owe" "Day.owe" (defArgs s_Day_owe) (defBody s_Day_owe) (defScope s_Day_owe) .none kV_Day_owe dc_Day_owe pm_Day_owe an_Day_owe cd_Day_owe ct_Day_owe), sl_Day_owe⟩) (c_Day_owe : PySem.W.codeIn K cd_Day_owe "Day.owe" = true) (k_Day_owe : PySem.W.keepIn K (.ref f_Day_owe) = true)
    {f_Day_rest : Addr} {oc_Day_rest kV_Day_rest dc_Day_rest pm_Day_rest cd_Day_rest ct_Day_rest : Value} {od_Day_rest an_Day_rest : Option Addr} {sl_Day_rest : Array (Option Value)}
    (a_Day_rest : PySem.W.findIn K (.ref y_Day) "rest" = some (some (.ref f_Day_rest))) (i_Day_rest : PySem.W.isFn K (.ref f_Day_rest) = true) (l_Day_rest : K.lookup f_Day_rest = some ⟨oc_Day_rest, od_Day_rest, .func (PySem.W.fnOf "rest" "Day.rest" (defArgs s_Day_rest) (defBody s_Day_rest) (defScope s_Day_rest) .none kV_Day_rest dc_Day_rest pm_Day_rest an_Day_rest cd_Day_rest ct_Day_rest), sl_Day_rest⟩) (c_Day_rest : PySem.W.codeIn K cd_Day_rest "Day.rest" = true) (k_Day_rest : PySem.W.keepIn K (.ref f_Day_rest) = true)
    {f_Day_pay : Addr} {oc_Day_pay kV_Day_pay dc_Day_pay pm_Day_pay cd_Day_pay ct_Day_pay : Value} {od_Day_pay an_Day_pay : Option Addr} {sl_Day_pay : Array (Option Value)}
    (a_Day_pay : PySem.W.findIn K (.ref y_Day) "pay" = some (some (.ref f_Day_pay))) (i_Day_pay : PySem.W.isFn K (.ref f_Day_pay) = true) (l_Day_pay : K.lookup f_Day_pay = some ⟨oc_Day_pay, od_Day_pay, .func (PySem.W.fnOf "pay" "Day.pay" (defArgs s_Day_pay) (defBody s_Day_pay) (defScope s_Day_pay) .none kV_Day_pay dc_Day_pay pm_Day_pay an_Day_pay cd_Day_pay ct_Day_pay), sl_Day_pay⟩) (c_Day_pay : PySem.W.codeIn K cd_Day_pay "Day.pay" = true) (k_Day_pay : PySem.W.keepIn K (.ref f_Day_pay) = true)
    {f_Day_standing : Addr} {oc_Day_standing kV_Day_standing dc_Day_standing pm_Day_standing cd_Day_standing ct_Day_standing : Value} {od_Day_standing an_Day_standing : Option Addr} {sl_Day_standing : Array (Option Value)}
    (a_Day_standing : PySem.W.findIn K (.ref y_Day) "standing" = some (some (.ref f_Day_standing))) (i_Day_standing : PySem.W.isFn K (.ref f_Day_standing) = true) (l_Day_standing : K.lookup f_Day_standing = some ⟨oc_Day_standing, od_Day_standing, .func (PySem.W.fnOf "standing" "Day.standing" (defArgs s_Day_standing) (defBody s_Day_standing) (defScope s_Day_standing) .none kV_Day_standing dc_Day_standing pm_Day_standing an_Day_standing cd_Day_standing ct_Day_standing), sl_Day_standing⟩) (c_Day_standing : PySem.W.codeIn K cd_Day_standing "Day.standing" = true) (k_Day_standing : PySem.W.keepIn K (.ref f_Day_standing) = true)
    {f_Day_balance : Addr} {oc_Day_balance kV_Day_balance dc_Day_balance pm_Day_balance cd_Day_balance ct_Day_balance : Value} {od_Day_balance an_Day_balance : Option Addr} {sl_Day_balance : Array (Option Value)}
    (a_Day_balance : PySem.W.findIn K (.ref y_Day) "balance" = some (some (.ref f_Day_balance))) (i_Day_balance : PySem.W.isFn K (.ref f_Day_balance) = true) (l_Day_balance : K.lookup f_Day_balance = some ⟨oc_Day_balance, od_Day_balance, .func (PySem.W.fnOf "balance" "Day.balance" (defArgs s_Day_balance) (defBody s_Day_balance) (defScope s_Day_balance) .none kV_Day_balance dc_Day_balance pm_Day_balance an_Day_balance cd_Day_balance ct_Day_balance), sl_Day_balance⟩) (c_Day_balance : PySem.W.codeIn K cd_Day_balance "Day.balance" = true) (k_Day_balance : PySem.W.keepIn K (.ref f_Day_balance) = true)
    {f_qcell_at : Addr} {oc_qcell_at kV_qcell_at dc_qcell_at pm_qcell_at cd_qcell_at ct_qcell_at : Value} {od_qcell_at an_qcell_at : Option Addr} {sl_qcell_at : Array (Option Value)}
    (a_qcell_at : PySem.W.nsIn K mainGlobals "_law_cell_at" = some (some (.ref f_qcell_at))) (l_qcell_at : K.lookup f_qcell_at = some ⟨oc_qcell_at, od_qcell_at, .func (PySem.W.fnOf "_law_cell_at" "_law_cell_at" (defArgs s_qcell_at) (defBody s_qcell_at) (defScope s_qcell_at) .none kV_qcell_at dc_qcell_at pm_qcell_at an_qcell_at cd_qcell_at ct_qcell_at), sl_qcell_at⟩) (c_qcell_at : PySem.W.codeIn K cd_qcell_at "_law_cell_at" = true) (k_qcell_at : PySem.W.keepIn K (.ref f_qcell_at) = true)
    {f_qwhole : Addr} {oc_qwhole kV_qwhole dc_qwhole pm_qwhole cd_qwhole ct_qwhole : Value} {od_qwhole an_qwhole : Option Addr} {sl_qwhole : Array (Option Value)}
    (a_qwhole : PySem.W.nsIn K mainGlobals "_law_whole" = some (some (.ref f_qwhole))) (l_qwhole : K.lookup f_qwhole = some ⟨oc_qwhole, od_qwhole, .func (PySem.W.fnOf "_law_whole" "_law_whole" (defArgs s_qwhole) (defBody s_qwhole) (defScope s_qwhole) .none kV_qwhole dc_qwhole pm_qwhole an_qwhole cd_qwhole ct_qwhole), sl_qwhole⟩) (c_qwhole : PySem.W.codeIn K cd_qwhole "_law_whole" = true) (k_qwhole : PySem.W.keepIn K (.ref f_qwhole) = true)
    {f_qkind : Addr} {oc_qkind kV_qkind dc_qkind pm_qkind cd_qkind ct_qkind : Value} {od_qkind an_qkind : Option Addr} {sl_qkind : Array (Option Value)}
    (a_qkind : PySem.W.nsIn K mainGlobals "_law_kind" = some (some (.ref f_qkind))) (l_qkind : K.lookup f_qkind = some ⟨oc_qkind, od_qkind, .func (PySem.W.fnOf "_law_kind" "_law_kind" (defArgs s_qkind) (defBody s_qkind) (defScope s_qkind) .none kV_qkind dc_qkind pm_qkind an_qkind cd_qkind ct_qkind), sl_qkind⟩) (c_qkind : PySem.W.codeIn K cd_qkind "_law_kind" = true) (k_qkind : PySem.W.keepIn K (.ref f_qkind) = true)
    {f_qowed : Addr} {oc_qowed kV_qowed dc_qowed pm_qowed cd_qowed ct_qowed : Value} {od_qowed an_qowed : Option Addr} {sl_qowed : Array (Option Value)}
    (a_qowed : PySem.W.nsIn K mainGlobals "_law_owed" = some (some (.ref f_qowed))) (l_qowed : K.lookup f_qowed = some ⟨oc_qowed, od_qowed, .func (PySem.W.fnOf "_law_owed" "_law_owed" (defArgs s_qowed) (defBody s_qowed) (defScope s_qowed) .none kV_qowed dc_qowed pm_qowed an_qowed cd_qowed ct_qowed), sl_qowed⟩) (c_qowed : PySem.W.codeIn K cd_qowed "_law_owed" = true) (k_qowed : PySem.W.keepIn K (.ref f_qowed) = true)
    {f_qpaid : Addr} {oc_qpaid kV_qpaid dc_qpaid pm_qpaid cd_qpaid ct_qpaid : Value} {od_qpaid an_qpaid : Option Addr} {sl_qpaid : Array (Option Value)}
    (a_qpaid : PySem.W.nsIn K mainGlobals "_law_paid" = some (some (.ref f_qpaid))) (l_qpaid : K.lookup f_qpaid = some ⟨oc_qpaid, od_qpaid, .func (PySem.W.fnOf "_law_paid" "_law_paid" (defArgs s_qpaid) (defBody s_qpaid) (defScope s_qpaid) .none kV_qpaid dc_qpaid pm_qpaid an_qpaid cd_qpaid ct_qpaid), sl_qpaid⟩) (c_qpaid : PySem.W.codeIn K cd_qpaid "_law_paid" = true) (k_qpaid : PySem.W.keepIn K (.ref f_qpaid) = true)
    {f_qno_house : Addr} {oc_qno_house kV_qno_house dc_qno_house pm_qno_house cd_qno_house ct_qno_house : Value} {od_qno_house an_qno_house : Option Addr} {sl_qno_house : Array (Option Value)}
    (a_qno_house : PySem.W.nsIn K mainGlobals "_law_no_house" = some (some (.ref f_qno_house))) (l_qno_house : K.lookup f_qno_house = some ⟨oc_qno_house, od_qno_house, .func (PySem.W.fnOf "_law_no_house" "_law_no_house" (defArgs s_qno_house) (defBody s_qno_house) (defScope s_qno_house) .none kV_qno_house dc_qno_house pm_qno_house an_qno_house cd_qno_house ct_qno_house), sl_qno_house⟩) (c_qno_house : PySem.W.codeIn K cd_qno_house "_law_no_house" = true) (k_qno_house : PySem.W.keepIn K (.ref f_qno_house) = true)
    {f_qno_number : Addr} {oc_qno_number kV_qno_number dc_qno_number pm_qno_number cd_qno_number ct_qno_number : Value} {od_qno_number an_qno_number : Option Addr} {sl_qno_number : Array (Option Value)}
    (a_qno_number : PySem.W.nsIn K mainGlobals "_law_no_number" = some (some (.ref f_qno_number))) (l_qno_number : K.lookup f_qno_number = some ⟨oc_qno_number, od_qno_number, .func (PySem.W.fnOf "_law_no_number" "_law_no_number" (defArgs s_qno_number) (defBody s_qno_number) (defScope s_qno_number) .none kV_qno_number dc_qno_number pm_qno_number an_qno_number cd_qno_number ct_qno_number), sl_qno_number⟩) (c_qno_number : PySem.W.codeIn K cd_qno_number "_law_no_number" = true) (k_qno_number : PySem.W.keepIn K (.ref f_qno_number) = true)
    {f_qtold : Addr} {oc_qtold kV_qtold dc_qtold pm_qtold cd_qtold ct_qtold : Value} {od_qtold an_qtold : Option Addr} {sl_qtold : Array (Option Value)}
    (a_qtold : PySem.W.nsIn K mainGlobals "_law_told" = some (some (.ref f_qtold))) (l_qtold : K.lookup f_qtold = some ⟨oc_qtold, od_qtold, .func (PySem.W.fnOf "_law_told" "_law_told" (defArgs s_qtold) (defBody s_qtold) (defScope s_qtold) .none kV_qtold dc_qtold pm_qtold an_qtold cd_qtold ct_qtold), sl_qtold⟩) (c_qtold : PySem.W.codeIn K cd_qtold "_law_told" = true) (k_qtold : PySem.W.keepIn K (.ref f_qtold) = true)
    {f_qstands : Addr} {oc_qstands kV_qstands dc_qstands pm_qstands cd_qstands ct_qstands : Value} {od_qstands an_qstands : Option Addr} {sl_qstands : Array (Option Value)}
    (a_qstands : PySem.W.nsIn K mainGlobals "_law_stands" = some (some (.ref f_qstands))) (l_qstands : K.lookup f_qstands = some ⟨oc_qstands, od_qstands, .func (PySem.W.fnOf "_law_stands" "_law_stands" (defArgs s_qstands) (defBody s_qstands) (defScope s_qstands) .none kV_qstands dc_qstands pm_qstands an_qstands cd_qstands ct_qstands), sl_qstands⟩) (c_qstands : PySem.W.codeIn K cd_qstands "_law_stands" = true) (k_qstands : PySem.W.keepIn K (.ref f_qstands) = true)
    {f_qno_count : Addr} {oc_qno_count kV_qno_count dc_qno_count pm_qno_count cd_qno_count ct_qno_count : Value} {od_qno_count an_qno_count : Option Addr} {sl_qno_count : Array (Option Value)}
    (a_qno_count : PySem.W.nsIn K mainGlobals "_law_no_count" = some (some (.ref f_qno_count))) (l_qno_count : K.lookup f_qno_count = some ⟨oc_qno_count, od_qno_count, .func (PySem.W.fnOf "_law_no_count" "_law_no_count" (defArgs s_qno_count) (defBody s_qno_count) (defScope s_qno_count) .none kV_qno_count dc_qno_count pm_qno_count an_qno_count cd_qno_count ct_qno_count), sl_qno_count⟩) (c_qno_count : PySem.W.codeIn K cd_qno_count "_law_no_count" = true) (k_qno_count : PySem.W.keepIn K (.ref f_qno_count) = true)
    {f_law : Addr} {oc_law kV_law dc_law pm_law cd_law ct_law : Value} {od_law an_law : Option Addr} {sl_law : Array (Option Value)}
    (a_law : PySem.W.nsIn K mainGlobals "law" = some (some (.ref f_law))) (l_law : K.lookup f_law = some ⟨oc_law, od_law, .func (PySem.W.fnOf "law" "law" (defArgs s_law) (defBody s_law) (defScope s_law) .none kV_law dc_law pm_law an_law cd_law ct_law), sl_law⟩) (c_law : PySem.W.codeIn K cd_law "law" = true) (k_law : PySem.W.keepIn K (.ref f_law) = true)
    : ∃ fd : FuncData, (∀ (s : Shared) (u : Value), BindsTo s fd ⟨[u], []⟩ [("_law_script", u)]) ∧ ∀ base : Heap, K.In base → base.Ns mainGlobals mg → FnOk P w K mg base CX0 7 fa fd ["_law_script"] (spOf K T_law10) := by
  have e := hfa.symm.trans (PySem.W.mg_of KX Gn a_law)
  cases e
  let X : Xs := ⟨y_DebtError, y_BadCount, y_BadDebt, y_BadCut, y_Uneven, y_BadPrices, y_NotBest, y_NoDebt, y_NoHouse, y_BadAmount, y_Day⟩
  have T : Txt K mg X t_MOST t_MOST_HOUSES := ⟨PySem.W.mg_none_of KX Gn n_ValueError, PySem.W.mg_none_of KX Gn n_all, PySem.W.mg_none_of KX Gn n_bool, PySem.W.mg_none_of KX Gn n_int, PySem.W.mg_none_of KX Gn n_isinstance, PySem.W.mg_none_of KX Gn n_len, PySem.W.mg_none_of KX Gn n_list, PySem.W.mg_none_of KX Gn n_range, PySem.W.mg_none_of KX Gn n_tuple, PySem.W.mg_of KX Gn g_MOST, PySem.W.mg_of KX Gn g_MOST_HOUSES, ⟨xx_BadAmount, PySem.W.mg_of KX Gn xg_BadAmount, xk_BadAmount, xb_BadAmount, xt_BadAmount⟩, ⟨xx_BadCount, PySem.W.mg_of KX Gn xg_BadCount, xk_BadCount, xb_BadCount, xt_BadCount⟩, ⟨xx_BadDebt, PySem.W.mg_of KX Gn xg_BadDebt, xk_BadDebt, xb_BadDebt, xt_BadDebt⟩, ⟨xx_NoDebt, PySem.W.mg_of KX Gn xg_NoDebt, xk_NoDebt, xb_NoDebt, xt_NoDebt⟩, ⟨xx_NoHouse, PySem.W.mg_of KX Gn xg_NoHouse, xk_NoHouse, xb_NoHouse, xt_NoHouse⟩, PySem.W.mg_of KX Gn xg_BadAmount, PySem.W.mg_of KX Gn xg_BadCount, PySem.W.mg_of KX Gn xg_BadCut, PySem.W.mg_of KX Gn xg_BadDebt, PySem.W.mg_of KX Gn xg_BadPrices, PySem.W.mg_of KX Gn xg_Day, PySem.W.mg_of KX Gn xg_DebtError, PySem.W.mg_of KX Gn xg_NoDebt, PySem.W.mg_of KX Gn xg_NoHouse, PySem.W.mg_of KX Gn xg_NotBest, PySem.W.mg_of KX Gn xg_Uneven, kit_mk ⟨eg_BadAmount, ek_BadAmount, xb_BadAmount, kd_BadAmount, ea_BadAmount, en, et, em_BadAmount⟩ (PySem.W.exm_ref xb_DebtError kd_DebtError xt_DebtError ed_BadAmount) (kit_val ev_BadAmount) (kit_ref eq_BadAmount_BadCount kd_BadCount xt_BadCount es_BadAmount_BadCount) (kit_ref eq_BadAmount_BadDebt kd_BadDebt xt_BadDebt es_BadAmount_BadDebt) (kit_ref eq_BadAmount_BadCut kd_BadCut xt_BadCut es_BadAmount_BadCut) (kit_ref eq_BadAmount_Uneven kd_Uneven xt_Uneven es_BadAmount_Uneven) (kit_ref eq_BadAmount_BadPrices kd_BadPrices xt_BadPrices es_BadAmount_BadPrices) (kit_ref eq_BadAmount_NotBest kd_NotBest xt_NotBest es_BadAmount_NotBest) (kit_ref eq_BadAmount_NoDebt kd_NoDebt xt_NoDebt es_BadAmount_NoDebt) (kit_ref eq_BadAmount_NoHouse kd_NoHouse xt_NoHouse es_BadAmount_NoHouse) kit_self, kit_mk ⟨eg_BadCount, ek_BadCount, xb_BadCount, kd_BadCount, ea_BadCount, en, et, em_BadCount⟩ (PySem.W.exm_ref xb_DebtError kd_DebtError xt_DebtError ed_BadCount) (kit_val ev_BadCount) kit_self (kit_ref eq_BadCount_BadDebt kd_BadDebt xt_BadDebt es_BadCount_BadDebt) (kit_ref eq_BadCount_BadCut kd_BadCut xt_BadCut es_BadCount_BadCut) (kit_ref eq_BadCount_Uneven kd_Uneven xt_Uneven es_BadCount_Uneven) (kit_ref eq_BadCount_BadPrices kd_BadPrices xt_BadPrices es_BadCount_BadPrices) (kit_ref eq_BadCount_NotBest kd_NotBest xt_NotBest es_BadCount_NotBest) (kit_ref eq_BadCount_NoDebt kd_NoDebt xt_NoDebt es_BadCount_NoDebt) (kit_ref eq_BadCount_NoHouse kd_NoHouse xt_NoHouse es_BadCount_NoHouse) (kit_ref eq_BadCount_BadAmount kd_BadAmount xt_BadAmount es_BadCount_BadAmount), kit_mk ⟨eg_BadDebt, ek_BadDebt, xb_BadDebt, kd_BadDebt, ea_BadDebt, en, et, em_BadDebt⟩ (PySem.W.exm_ref xb_DebtError kd_DebtError xt_DebtError ed_BadDebt) (kit_val ev_BadDebt) (kit_ref eq_BadDebt_BadCount kd_BadCount xt_BadCount es_BadDebt_BadCount) kit_self (kit_ref eq_BadDebt_BadCut kd_BadCut xt_BadCut es_BadDebt_BadCut) (kit_ref eq_BadDebt_Uneven kd_Uneven xt_Uneven es_BadDebt_Uneven) (kit_ref eq_BadDebt_BadPrices kd_BadPrices xt_BadPrices es_BadDebt_BadPrices) (kit_ref eq_BadDebt_NotBest kd_NotBest xt_NotBest es_BadDebt_NotBest) (kit_ref eq_BadDebt_NoDebt kd_NoDebt xt_NoDebt es_BadDebt_NoDebt) (kit_ref eq_BadDebt_NoHouse kd_NoHouse xt_NoHouse es_BadDebt_NoHouse) (kit_ref eq_BadDebt_BadAmount kd_BadAmount xt_BadAmount es_BadDebt_BadAmount), kit_mk ⟨eg_NoDebt, ek_NoDebt, xb_NoDebt, kd_NoDebt, ea_NoDebt, en, et, em_NoDebt⟩ (PySem.W.exm_ref xb_DebtError kd_DebtError xt_DebtError ed_NoDebt) (kit_val ev_NoDebt) (kit_ref eq_NoDebt_BadCount kd_BadCount xt_BadCount es_NoDebt_BadCount) (kit_ref eq_NoDebt_BadDebt kd_BadDebt xt_BadDebt es_NoDebt_BadDebt) (kit_ref eq_NoDebt_BadCut kd_BadCut xt_BadCut es_NoDebt_BadCut) (kit_ref eq_NoDebt_Uneven kd_Uneven xt_Uneven es_NoDebt_Uneven) (kit_ref eq_NoDebt_BadPrices kd_BadPrices xt_BadPrices es_NoDebt_BadPrices) (kit_ref eq_NoDebt_NotBest kd_NotBest xt_NotBest es_NoDebt_NotBest) kit_self (kit_ref eq_NoDebt_NoHouse kd_NoHouse xt_NoHouse es_NoDebt_NoHouse) (kit_ref eq_NoDebt_BadAmount kd_BadAmount xt_BadAmount es_NoDebt_BadAmount), kit_mk ⟨eg_NoHouse, ek_NoHouse, xb_NoHouse, kd_NoHouse, ea_NoHouse, en, et, em_NoHouse⟩ (PySem.W.exm_ref xb_DebtError kd_DebtError xt_DebtError ed_NoHouse) (kit_val ev_NoHouse) (kit_ref eq_NoHouse_BadCount kd_BadCount xt_BadCount es_NoHouse_BadCount) (kit_ref eq_NoHouse_BadDebt kd_BadDebt xt_BadDebt es_NoHouse_BadDebt) (kit_ref eq_NoHouse_BadCut kd_BadCut xt_BadCut es_NoHouse_BadCut) (kit_ref eq_NoHouse_Uneven kd_Uneven xt_Uneven es_NoHouse_Uneven) (kit_ref eq_NoHouse_BadPrices kd_BadPrices xt_BadPrices es_NoHouse_BadPrices) (kit_ref eq_NoHouse_NotBest kd_NotBest xt_NotBest es_NoHouse_NotBest) (kit_ref eq_NoHouse_NoDebt kd_NoDebt xt_NoDebt es_NoHouse_NoDebt) kit_self (kit_ref eq_NoHouse_BadAmount kd_BadAmount xt_BadAmount es_NoHouse_BadAmount), ⟨⟨dy_pg, dy_hd, dy_po, dy_sa⟩, dy_houses, dy_came, dy_rests⟩⟩
  have D_is_whole := def_at KX Gn (st := s_is_whole) (ps := ["thing"]) a_is_whole l_is_whole c_is_whole k_is_whole fun _ _ _ _ _ _ us hl => match us, hl with | [_], _ => rfl
  have D_within := def_at KX Gn (st := s_within) (ps := ["thing", "low", "high"]) a_within l_within c_within k_within fun _ _ _ _ _ _ us hl => match us, hl with | [_, _, _], _ => rfl
  have D_need_count := def_at KX Gn (st := s_need_count) (ps := ["count"]) a_need_count l_need_count c_need_count k_need_count fun _ _ _ _ _ _ us hl => match us, hl with | [_], _ => rfl
  have D_is_debt := def_at KX Gn (st := s_is_debt) (ps := ["count", "thing"]) a_is_debt l_is_debt c_is_debt k_is_debt fun _ _ _ _ _ _ us hl => match us, hl with | [_, _], _ => rfl
  have D_balances := def_at KX Gn (st := s_balances) (ps := ["count", "debts"]) a_balances l_balances c_balances k_balances fun _ _ _ _ _ _ us hl => match us, hl with | [_, _], _ => rfl
  have D_Day_init : MetAt K "__init__" "Day.__init__" s_Day_init ["self", "count"] f_Day_init _ := ⟨fun_mk (st := s_Day_init) l_Day_init c_Day_init k_Day_init, (fun_mk (st := s_Day_init) l_Day_init c_Day_init k_Day_init).binds fun _ _ _ _ _ _ us hl => match us, hl with | [_, _], _ => rfl⟩
  have D_Day_owe : MetAt K "owe" "Day.owe" s_Day_owe ["self", "debtor", "creditor", "amount"] f_Day_owe _ := ⟨fun_mk (st := s_Day_owe) l_Day_owe c_Day_owe k_Day_owe, (fun_mk (st := s_Day_owe) l_Day_owe c_Day_owe k_Day_owe).binds fun _ _ _ _ _ _ us hl => match us, hl with | [_, _, _, _], _ => rfl⟩
  have D_Day_rest : MetAt K "rest" "Day.rest" s_Day_rest ["self", "number"] f_Day_rest _ := ⟨fun_mk (st := s_Day_rest) l_Day_rest c_Day_rest k_Day_rest, (fun_mk (st := s_Day_rest) l_Day_rest c_Day_rest k_Day_rest).binds fun _ _ _ _ _ _ us hl => match us, hl with | [_, _], _ => rfl⟩
  have D_Day_pay : MetAt K "pay" "Day.pay" s_Day_pay ["self", "number", "amount"] f_Day_pay _ := ⟨fun_mk (st := s_Day_pay) l_Day_pay c_Day_pay k_Day_pay, (fun_mk (st := s_Day_pay) l_Day_pay c_Day_pay k_Day_pay).binds fun _ _ _ _ _ _ us hl => match us, hl with | [_, _, _], _ => rfl⟩
  have D_Day_standing : MetAt K "standing" "Day.standing" s_Day_standing ["self"] f_Day_standing _ := ⟨fun_mk (st := s_Day_standing) l_Day_standing c_Day_standing k_Day_standing, (fun_mk (st := s_Day_standing) l_Day_standing c_Day_standing k_Day_standing).binds fun _ _ _ _ _ _ us hl => match us, hl with | [_], _ => rfl⟩
  have D_Day_balance : MetAt K "balance" "Day.balance" s_Day_balance ["self", "house"] f_Day_balance _ := ⟨fun_mk (st := s_Day_balance) l_Day_balance c_Day_balance k_Day_balance, (fun_mk (st := s_Day_balance) l_Day_balance c_Day_balance k_Day_balance).binds fun _ _ _ _ _ _ us hl => match us, hl with | [_, _], _ => rfl⟩
  have D_qcell_at := def_at KX Gn (st := s_qcell_at) (ps := ["_law_script", "_law_k"]) a_qcell_at l_qcell_at c_qcell_at k_qcell_at fun _ _ _ _ _ _ us hl => match us, hl with | [_, _], _ => rfl
  have D_qwhole := def_at KX Gn (st := s_qwhole) (ps := ["_law_found"]) a_qwhole l_qwhole c_qwhole k_qwhole fun _ _ _ _ _ _ us hl => match us, hl with | [_], _ => rfl
  have D_qkind := def_at KX Gn (st := s_qkind) (ps := ["_law_error"]) a_qkind l_qkind c_qkind k_qkind fun _ _ _ _ _ _ us hl => match us, hl with | [_], _ => rfl
  have D_qowed := def_at KX Gn (st := s_qowed) (ps := ["_law_day", "_law_rows", "_law_count", "_law_cell"]) a_qowed l_qowed c_qowed k_qowed fun _ _ _ _ _ _ us hl => match us, hl with | [_, _, _, _], _ => rfl
  have D_qpaid := def_at KX Gn (st := s_qpaid) (ps := ["_law_day", "_law_rows", "_law_cell"]) a_qpaid l_qpaid c_qpaid k_qpaid fun _ _ _ _ _ _ us hl => match us, hl with | [_, _, _], _ => rfl
  have D_qno_house := def_at KX Gn (st := s_qno_house) (ps := ["_law_day", "_law_house"]) a_qno_house l_qno_house c_qno_house k_qno_house fun _ _ _ _ _ _ us hl => match us, hl with | [_, _], _ => rfl
  have D_qno_number := def_at KX Gn (st := s_qno_number) (ps := ["_law_day", "_law_number"]) a_qno_number l_qno_number c_qno_number k_qno_number fun _ _ _ _ _ _ us hl => match us, hl with | [_, _], _ => rfl
  have D_qtold := def_at KX Gn (st := s_qtold) (ps := ["_law_day", "_law_rows", "_law_count", "_law_way"]) a_qtold l_qtold c_qtold k_qtold fun _ _ _ _ _ _ us hl => match us, hl with | [_, _, _, _], _ => rfl
  have D_qstands := def_at KX Gn (st := s_qstands) (ps := ["_law_day", "_law_rows", "_law_count", "_law_cell"]) a_qstands l_qstands c_qstands k_qstands fun _ _ _ _ _ _ us hl => match us, hl with | [_, _, _, _], _ => rfl
  have D_qno_count := def_at KX Gn (st := s_qno_count) (ps := ["_law_cell"]) a_qno_count l_qno_count c_qno_count k_qno_count fun _ _ _ _ _ _ us hl => match us, hl with | [_], _ => rfl
  have D_law := def_at KX Gn (st := s_law) (ps := ["_law_script"]) a_law l_law c_law k_law fun _ _ _ _ _ _ us hl => match us, hl with | [_], _ => rfl
  refine ⟨PySem.W.fnOf "law" "law" (defArgs s_law) (defBody s_law) (defScope s_law) .none kV_law dc_law pm_law an_law cd_law ct_law, fun s v => .of_eq rfl, fun base _ _ => ?_⟩
  have C_is_whole : Cal P w K mg base CX0 1 "is_whole" ["thing"] (spOf K T_is_whole) := ⟨⟨_, _, ok_is_whole T D_is_whole, D_is_whole.m, D_is_whole.F.kp, D_is_whole.b⟩⟩
  have C_within : Cal P w K mg base CX0 2 "within" ["thing", "low", "high"] (spOf K T_within) := ⟨⟨_, _, ok_within T D_within C_is_whole, D_within.m, D_within.F.kp, D_within.b⟩⟩
  have C_need_count : Cal P w K mg base (L2N.CX P w) 3 "need_count" ["count"] (spOf K (T_need_count X)) := ⟨⟨_, _, ok_need_count T D_need_count C_within, D_need_count.m, D_need_count.F.kp, D_need_count.b⟩⟩
  have C_is_debt : Cal P w K mg base CX0 3 "is_debt" ["count", "thing"] (spOf K T_is_debt) := ⟨⟨_, _, ok_is_debt T D_is_debt C_within, D_is_debt.m, D_is_debt.F.kp, D_is_debt.b⟩⟩
  have C_balances : Cal P w K mg base CX0 1 "balances" ["count", "debts"] (spOf K T_balances) := ⟨⟨_, _, ok_balances T D_balances, D_balances.m, D_balances.F.kp, D_balances.b⟩⟩
  have C_Day_init : CalK P w K mg base (L2N.CX P w) 4 X.Day ["self", "count"] (spOf K (T_Day_init X)) := ⟨⟨_, _, ok_Day_init T D_Day_init C_need_count, ⟨dy_mk, a_Day_init, i_Day_init, dy_kc⟩, D_Day_init.b⟩⟩
  have C_Day_owe : CalM P w K mg base (L2N.CX P w) 4 X.Day "owe" ["self", "debtor", "creditor", "amount"] (spOf K (T_Day_owe X)) := ⟨⟨_, _, ok_Day_owe T D_Day_owe C_is_debt, ⟨a_Day_owe, i_Day_owe, k_Day_owe⟩, D_Day_owe.b⟩⟩
  have C_Day_rest : CalM P w K mg base (L2N.CX P w) 3 X.Day "rest" ["self", "number"] (spOf K (T_Day_rest X)) := ⟨⟨_, _, ok_Day_rest T D_Day_rest C_within, ⟨a_Day_rest, i_Day_rest, k_Day_rest⟩, D_Day_rest.b⟩⟩
  have C_Day_pay : CalM P w K mg base (L2N.CX P w) 4 X.Day "pay" ["self", "number", "amount"] (spOf K (T_Day_pay X)) := ⟨⟨_, _, ok_Day_pay T D_Day_pay C_within C_Day_rest, ⟨a_Day_pay, i_Day_pay, k_Day_pay⟩, D_Day_pay.b⟩⟩
  have C_Day_standing : CalM P w K mg base CX0 1 X.Day "standing" ["self"] (spOf K (T_Day_standing X)) := ⟨⟨_, _, ok_Day_standing T D_Day_standing, ⟨a_Day_standing, i_Day_standing, k_Day_standing⟩, D_Day_standing.b⟩⟩
  have C_Day_balance : CalM P w K mg base (L2N.CX P w) 3 X.Day "balance" ["self", "house"] (spOf K (T_Day_balance X)) := ⟨⟨_, _, ok_Day_balance T D_Day_balance C_balances C_Day_standing C_within, ⟨a_Day_balance, i_Day_balance, k_Day_balance⟩, D_Day_balance.b⟩⟩
  have C_qcell_at : Cal P w K mg base CX0 1 "_law_cell_at" ["_law_script", "_law_k"] (spOf K T_qcell_at) := ⟨⟨_, _, ok_qcell_at T D_qcell_at, D_qcell_at.m, D_qcell_at.F.kp, D_qcell_at.b⟩⟩
  have C_qwhole : Cal P w K mg base CX0 1 "_law_whole" ["_law_found"] (spOf K T_qwhole) := ⟨⟨_, _, ok_qwhole T D_qwhole, D_qwhole.m, D_qwhole.F.kp, D_qwhole.b⟩⟩
  have C_qkind : CalP P w K mg base 1 "_law_kind" ["_law_error"] (spP K (T_qkind K X)) := ⟨⟨_, _, ok_qkind T D_qkind, D_qkind.m, D_qkind.F.kp, D_qkind.b⟩⟩
  have C_qowed : Cal P w K mg base CX0 5 "_law_owed" ["_law_day", "_law_rows", "_law_count", "_law_cell"] (spOf K (T_qowed X)) := ⟨⟨_, _, ok_qowed T D_qowed C_qwhole C_Day_owe C_qkind, D_qowed.m, D_qowed.F.kp, D_qowed.b⟩⟩
  have C_qpaid : Cal P w K mg base CX0 5 "_law_paid" ["_law_day", "_law_rows", "_law_cell"] (spOf K (T_qpaid X)) := ⟨⟨_, _, ok_qpaid T D_qpaid C_qwhole C_Day_pay C_qkind, D_qpaid.m, D_qpaid.F.kp, D_qpaid.b⟩⟩
  have C_qno_house : Cal P w K mg base CX0 4 "_law_no_house" ["_law_day", "_law_house"] (spOf K (T_qno_house X)) := ⟨⟨_, _, ok_qno_house T D_qno_house C_Day_balance C_qkind, D_qno_house.m, D_qno_house.F.kp, D_qno_house.b⟩⟩
  have C_qno_number : Cal P w K mg base CX0 4 "_law_no_number" ["_law_day", "_law_number"] (spOf K (T_qno_number X)) := ⟨⟨_, _, ok_qno_number T D_qno_number C_Day_rest C_qkind, D_qno_number.m, D_qno_number.F.kp, D_qno_number.b⟩⟩
  have C_qtold : Cal P w K mg base CX0 4 "_law_told" ["_law_day", "_law_rows", "_law_count", "_law_way"] (spOf K (T_qtold X)) := ⟨⟨_, _, ok_qtold T D_qtold C_qwhole C_Day_balance C_Day_standing C_Day_rest, D_qtold.m, D_qtold.F.kp, D_qtold.b⟩⟩
  have C_qstands : Cal P w K mg base CX0 5 "_law_stands" ["_law_day", "_law_rows", "_law_count", "_law_cell"] (spOf K (T_qstands X)) := ⟨⟨_, _, ok_qstands T D_qstands C_qtold, D_qstands.m, D_qstands.F.kp, D_qstands.b⟩⟩
  have C_qno_count : Cal P w K mg base CX0 6 "_law_no_count" ["_law_cell"] (spOf K T_qno_count) := ⟨⟨_, _, ok_qno_count T D_qno_count C_Day_init C_qkind, D_qno_count.m, D_qno_count.F.kp, D_qno_count.b⟩⟩
  exact ok_law T D_law C_qstands C_qowed C_qpaid C_qno_number C_qno_house C_Day_standing C_Day_init C_qno_count C_qcell_at
end Fk10
open PySem PySem.W PyProof.Rows in
set_option maxRecDepth 100000 in
set_option maxHeartbeats 0 in
theorem PySem.Challenge.cw_clearday_k10_a_day_kept_holds : PySem.Challenge.rw_clearday_k10_a_day_kept.Holds := by
  w_on; o_law; k_head; (case hw => w_witness2)
  k_fill
  refine L2.walk_ofK (l := PySem.Challenge.rw_clearday_k10_a_day_kept) (n := 63) (k := 7) (x := "_law_script") (CX := L2.CX0) (sp := fun K => Vx.spOf K Bk.T_law10) rfl (by decide) rfl ⟨rfl, by decide, by decide⟩ (fun w h Y => PySem.W.kIn_of Y) ?F (fun K H a ns h1 _ h3 => Vx.law_sp (fun ns hn => ⟨ns, hn, rfl, rfl, rfl⟩) K H a ns h1 h3) (fun _ _ _ _ z => z)
  case F =>
    intro w mg fa h KX G hmg
    refine' Fk10.fin KX G hmg ?n_ValueError ?n_all ?n_bool ?n_int ?n_isinstance ?n_len ?n_list ?n_range ?n_tuple ?g_MOST ?g_MOST_HOUSES ?xg_BadAmount ?xg_BadCount ?xg_BadCut ?xg_BadDebt ?xg_BadPrices ?xg_Day ?xg_DebtError ?xg_NoDebt ?xg_NoHouse ?xg_NotBest ?xg_Uneven ?xx_BadAmount ?xk_BadAmount ?xx_BadCount ?xk_BadCount ?xx_BadDebt ?xk_BadDebt ?xx_NoDebt ?xk_NoDebt ?xx_NoHouse ?xk_NoHouse ?xb_BadAmount ?xb_BadCount ?xb_BadDebt ?xb_DebtError ?xb_NoDebt ?xb_NoHouse ?xt_BadAmount ?xt_BadCount ?xt_BadCut ?xt_BadDebt ?xt_BadPrices ?xt_DebtError ?xt_NoDebt ?xt_NoHouse ?xt_NotBest ?xt_Uneven ?kd_BadAmount ?kd_BadCount ?kd_BadCut ?kd_BadDebt ?kd_BadPrices ?kd_DebtError ?kd_NoDebt ?kd_NoHouse ?kd_NotBest ?kd_Uneven ?dy_pg ?dy_hd ?dy_po ?dy_sa ?dy_mk ?dy_kc ?dy_houses ?dy_came ?dy_rests ?en ?et ?eg_BadAmount ?ek_BadAmount ?ea_BadAmount ?em_BadAmount ?ed_BadAmount ?ev_BadAmount ?es_BadAmount_BadCount ?eq_BadAmount_BadCount ?es_BadAmount_BadDebt ?eq_BadAmount_BadDebt ?es_BadAmount_BadCut ?eq_BadAmount_BadCut ?es_BadAmount_Uneven ?eq_BadAmount_Uneven ?es_BadAmount_BadPrices ?eq_BadAmount_BadPrices ?es_BadAmount_NotBest ?eq_BadAmount_NotBest ?es_BadAmount_NoDebt ?eq_BadAmount_NoDebt ?es_BadAmount_NoHouse ?eq_BadAmount_NoHouse ?eg_BadCount ?ek_BadCount ?ea_BadCount ?em_BadCount ?ed_BadCount ?ev_BadCount ?es_BadCount_BadDebt ?eq_BadCount_BadDebt ?es_BadCount_BadCut ?eq_BadCount_BadCut ?es_BadCount_Uneven ?eq_BadCount_Uneven ?es_BadCount_BadPrices ?eq_BadCount_BadPrices ?es_BadCount_NotBest ?eq_BadCount_NotBest ?es_BadCount_NoDebt ?eq_BadCount_NoDebt ?es_BadCount_NoHouse ?eq_BadCount_NoHouse ?es_BadCount_BadAmount ?eq_BadCount_BadAmount ?eg_BadDebt ?ek_BadDebt ?ea_BadDebt ?em_BadDebt ?ed_BadDebt ?ev_BadDebt ?es_BadDebt_BadCount ?eq_BadDebt_BadCount ?es_BadDebt_BadCut ?eq_BadDebt_BadCut ?es_BadDebt_Uneven ?eq_BadDebt_Uneven ?es_BadDebt_BadPrices ?eq_BadDebt_BadPrices ?es_BadDebt_NotBest ?eq_BadDebt_NotBest ?es_BadDebt_NoDebt ?eq_BadDebt_NoDebt ?es_BadDebt_NoHouse ?eq_BadDebt_NoHouse ?es_BadDebt_BadAmount ?eq_BadDebt_BadAmount ?eg_NoDebt ?ek_NoDebt ?ea_NoDebt ?em_NoDebt ?ed_NoDebt ?ev_NoDebt ?es_NoDebt_BadCount ?eq_NoDebt_BadCount ?es_NoDebt_BadDebt ?eq_NoDebt_BadDebt ?es_NoDebt_BadCut ?eq_NoDebt_BadCut ?es_NoDebt_Uneven ?eq_NoDebt_Uneven ?es_NoDebt_BadPrices ?eq_NoDebt_BadPrices ?es_NoDebt_NotBest ?eq_NoDebt_NotBest ?es_NoDebt_NoHouse ?eq_NoDebt_NoHouse ?es_NoDebt_BadAmount ?eq_NoDebt_BadAmount ?eg_NoHouse ?ek_NoHouse ?ea_NoHouse ?em_NoHouse ?ed_NoHouse ?ev_NoHouse ?es_NoHouse_BadCount ?eq_NoHouse_BadCount ?es_NoHouse_BadDebt ?eq_NoHouse_BadDebt ?es_NoHouse_BadCut ?eq_NoHouse_BadCut ?es_NoHouse_Uneven ?eq_NoHouse_Uneven ?es_NoHouse_BadPrices ?eq_NoHouse_BadPrices ?es_NoHouse_NotBest ?eq_NoHouse_NotBest ?es_NoHouse_NoDebt ?eq_NoHouse_NoDebt ?es_NoHouse_BadAmount ?eq_NoHouse_BadAmount ?a_is_whole ?l_is_whole ?c_is_whole ?k_is_whole ?a_within ?l_within ?c_within ?k_within ?a_need_count ?l_need_count ?c_need_count ?k_need_count ?a_is_debt ?l_is_debt ?c_is_debt ?k_is_debt ?a_balances ?l_balances ?c_balances ?k_balances ?i_Day_init ?a_Day_init ?l_Day_init ?c_Day_init ?k_Day_init ?i_Day_owe ?a_Day_owe ?l_Day_owe ?c_Day_owe ?k_Day_owe ?i_Day_rest ?a_Day_rest ?l_Day_rest ?c_Day_rest ?k_Day_rest ?i_Day_pay ?a_Day_pay ?l_Day_pay ?c_Day_pay ?k_Day_pay ?i_Day_standing ?a_Day_standing ?l_Day_standing ?c_Day_standing ?k_Day_standing ?i_Day_balance ?a_Day_balance ?l_Day_balance ?c_Day_balance ?k_Day_balance ?a_qcell_at ?l_qcell_at ?c_qcell_at ?k_qcell_at ?a_qwhole ?l_qwhole ?c_qwhole ?k_qwhole ?a_qkind ?l_qkind ?c_qkind ?k_qkind ?a_qowed ?l_qowed ?c_qowed ?k_qowed ?a_qpaid ?l_qpaid ?c_qpaid ?k_qpaid ?a_qno_house ?l_qno_house ?c_qno_house ?k_qno_house ?a_qno_number ?l_qno_number ?c_qno_number ?k_qno_number ?a_qtold ?l_qtold ?c_qtold ?k_qtold ?a_qstands ?l_qstands ?c_qstands ?k_qstands ?a_qno_count ?l_qno_count ?c_qno_count ?k_qno_count ?a_law ?l_law ?c_law ?k_law
    (case n_ValueError => k_is)
    (case n_all => k_is)
    (case n_bool => k_is)
    (case n_int => k_is)
    (case n_isinstance => k_is)
    (case n_len => k_is)
    (case n_list => k_is)
    (case n_range => k_is)
    (case n_tuple => k_is)
    (case g_MOST => k_is)
    (case g_MOST_HOUSES => k_is)
    (case xg_BadAmount => k_is)
    (case xg_BadCount => k_is)
    (case xg_BadCut => k_is)
    (case xg_BadDebt => k_is)
    (case xg_BadPrices => k_is)
    (case xg_Day => k_is)
    (case xg_DebtError => k_is)
    (case xg_NoDebt => k_is)
    (case xg_NoHouse => k_is)
    (case xg_NotBest => k_is)
    (case xg_Uneven => k_is)
    (case xx_BadAmount => k_exc)
    (case xk_BadAmount => k_is)
    (case xx_BadCount => k_exc)
    (case xk_BadCount => k_is)
    (case xx_BadDebt => k_exc)
    (case xk_BadDebt => k_is)
    (case xx_NoDebt => k_exc)
    (case xk_NoDebt => k_is)
    (case xx_NoHouse => k_exc)
    (case xk_NoHouse => k_is)
    (case xb_BadAmount => k_is)
    (case xb_BadCount => k_is)
    (case xb_BadDebt => k_is)
    (case xb_DebtError => k_is)
    (case xb_NoDebt => k_is)
    (case xb_NoHouse => k_is)
    (case xt_BadAmount => k_is)
    (case xt_BadCount => k_is)
    (case xt_BadCut => k_is)
    (case xt_BadDebt => k_is)
    (case xt_BadPrices => k_is)
    (case xt_DebtError => k_is)
    (case xt_NoDebt => k_is)
    (case xt_NoHouse => k_is)
    (case xt_NotBest => k_is)
    (case xt_Uneven => k_is)
    (case kd_BadAmount => k_is)
    (case kd_BadCount => k_is)
    (case kd_BadCut => k_is)
    (case kd_BadDebt => k_is)
    (case kd_BadPrices => k_is)
    (case kd_DebtError => k_is)
    (case kd_NoDebt => k_is)
    (case kd_NoHouse => k_is)
    (case kd_NotBest => k_is)
    (case kd_Uneven => k_is)
    (case dy_pg => k_is)
    (case dy_hd => k_is)
    (case dy_po => k_is)
    (case dy_sa => k_is)
    (case dy_mk => k_is)
    (case dy_kc => k_is)
    (case dy_houses => k_is)
    (case dy_came => k_is)
    (case dy_rests => k_is)
    (case en => k_is)
    (case et => k_is)
    (case eg_BadAmount => k_is)
    (case ek_BadAmount => k_is)
    (case ea_BadAmount => k_is)
    (case em_BadAmount => k_is)
    (case ed_BadAmount => k_is)
    (case ev_BadAmount => k_is)
    (case es_BadAmount_BadCount => k_is)
    (case eq_BadAmount_BadCount => decide)
    (case es_BadAmount_BadDebt => k_is)
    (case eq_BadAmount_BadDebt => decide)
    (case es_BadAmount_BadCut => k_is)
    (case eq_BadAmount_BadCut => decide)
    (case es_BadAmount_Uneven => k_is)
    (case eq_BadAmount_Uneven => decide)
    (case es_BadAmount_BadPrices => k_is)
    (case eq_BadAmount_BadPrices => decide)
    (case es_BadAmount_NotBest => k_is)
    (case eq_BadAmount_NotBest => decide)
    (case es_BadAmount_NoDebt => k_is)
    (case eq_BadAmount_NoDebt => decide)
    (case es_BadAmount_NoHouse => k_is)
    (case eq_BadAmount_NoHouse => decide)
    (case eg_BadCount => k_is)
    (case ek_BadCount => k_is)
    (case ea_BadCount => k_is)
    (case em_BadCount => k_is)
    (case ed_BadCount => k_is)
    (case ev_BadCount => k_is)
    (case es_BadCount_BadDebt => k_is)
    (case eq_BadCount_BadDebt => decide)
    (case es_BadCount_BadCut => k_is)
    (case eq_BadCount_BadCut => decide)
    (case es_BadCount_Uneven => k_is)
    (case eq_BadCount_Uneven => decide)
    (case es_BadCount_BadPrices => k_is)
    (case eq_BadCount_BadPrices => decide)
    (case es_BadCount_NotBest => k_is)
    (case eq_BadCount_NotBest => decide)
    (case es_BadCount_NoDebt => k_is)
    (case eq_BadCount_NoDebt => decide)
    (case es_BadCount_NoHouse => k_is)
    (case eq_BadCount_NoHouse => decide)
    (case es_BadCount_BadAmount => k_is)
    (case eq_BadCount_BadAmount => decide)
    (case eg_BadDebt => k_is)
    (case ek_BadDebt => k_is)
    (case ea_BadDebt => k_is)
    (case em_BadDebt => k_is)
    (case ed_BadDebt => k_is)
    (case ev_BadDebt => k_is)
    (case es_BadDebt_BadCount => k_is)
    (case eq_BadDebt_BadCount => decide)
    (case es_BadDebt_BadCut => k_is)
    (case eq_BadDebt_BadCut => decide)
    (case es_BadDebt_Uneven => k_is)
    (case eq_BadDebt_Uneven => decide)
    (case es_BadDebt_BadPrices => k_is)
    (case eq_BadDebt_BadPrices => decide)
    (case es_BadDebt_NotBest => k_is)
    (case eq_BadDebt_NotBest => decide)
    (case es_BadDebt_NoDebt => k_is)
    (case eq_BadDebt_NoDebt => decide)
    (case es_BadDebt_NoHouse => k_is)
    (case eq_BadDebt_NoHouse => decide)
    (case es_BadDebt_BadAmount => k_is)
    (case eq_BadDebt_BadAmount => decide)
    (case eg_NoDebt => k_is)
    (case ek_NoDebt => k_is)
    (case ea_NoDebt => k_is)
    (case em_NoDebt => k_is)
    (case ed_NoDebt => k_is)
    (case ev_NoDebt => k_is)
    (case es_NoDebt_BadCount => k_is)
    (case eq_NoDebt_BadCount => decide)
    (case es_NoDebt_BadDebt => k_is)
    (case eq_NoDebt_BadDebt => decide)
    (case es_NoDebt_BadCut => k_is)
    (case eq_NoDebt_BadCut => decide)
    (case es_NoDebt_Uneven => k_is)
    (case eq_NoDebt_Uneven => decide)
    (case es_NoDebt_BadPrices => k_is)
    (case eq_NoDebt_BadPrices => decide)
    (case es_NoDebt_NotBest => k_is)
    (case eq_NoDebt_NotBest => decide)
    (case es_NoDebt_NoHouse => k_is)
    (case eq_NoDebt_NoHouse => decide)
    (case es_NoDebt_BadAmount => k_is)
    (case eq_NoDebt_BadAmount => decide)
    (case eg_NoHouse => k_is)
    (case ek_NoHouse => k_is)
    (case ea_NoHouse => k_is)
    (case em_NoHouse => k_is)
    (case ed_NoHouse => k_is)
    (case ev_NoHouse => k_is)
    (case es_NoHouse_BadCount => k_is)
    (case eq_NoHouse_BadCount => decide)
    (case es_NoHouse_BadDebt => k_is)
    (case eq_NoHouse_BadDebt => decide)
    (case es_NoHouse_BadCut => k_is)
    (case eq_NoHouse_BadCut => decide)
    (case es_NoHouse_Uneven => k_is)
    (case eq_NoHouse_Uneven => decide)
    (case es_NoHouse_BadPrices => k_is)
    (case eq_NoHouse_BadPrices => decide)
    (case es_NoHouse_NotBest => k_is)
    (case eq_NoHouse_NotBest => decide)
    (case es_NoHouse_NoDebt => k_is)
    (case eq_NoHouse_NoDebt => decide)
    (case es_NoHouse_BadAmount => k_is)
    (case eq_NoHouse_BadAmount => decide)
    (case a_is_whole => k_is)
    (case l_is_whole => k_is)
    (case c_is_whole => k_is)
    (case k_is_whole => k_is)
    (case a_within => k_is)
    (case l_within => k_is)
    (case c_within => k_is)
    (case k_within => k_is)
    (case a_need_count => k_is)
    (case l_need_count => k_is)
    (case c_need_count => k_is)
    (case k_need_count => k_is)
    (case a_is_debt => k_is)
    (case l_is_debt => k_is)
    (case c_is_debt => k_is)
    (case k_is_debt => k_is)
    (case a_balances => k_is)
    (case l_balances => k_is)
    (case c_balances => k_is)
    (case k_balances => k_is)
    (case i_Day_init => k_is)
    (case a_Day_init => k_is)
    (case l_Day_init => k_is)
    (case c_Day_init => k_is)
    (case k_Day_init => k_is)
    (case i_Day_owe => k_is)
    (case a_Day_owe => k_is)
    (case l_Day_owe => k_is)
    (case c_Day_owe => k_is)
    (case k_Day_owe => k_is)
    (case i_Day_rest => k_is)
    (case a_Day_rest => k_is)
    (case l_Day_rest => k_is)
    (case c_Day_rest => k_is)
    (case k_Day_rest => k_is)
    (case i_Day_pay => k_is)
    (case a_Day_pay => k_is)
    (case l_Day_pay => k_is)
    (case c_Day_pay => k_is)
    (case k_Day_pay => k_is)
    (case i_Day_standing => k_is)
    (case a_Day_standing => k_is)
    (case l_Day_standing => k_is)
    (case c_Day_standing => k_is)
    (case k_Day_standing => k_is)
    (case i_Day_balance => k_is)
    (case a_Day_balance => k_is)
    (case l_Day_balance => k_is)
    (case c_Day_balance => k_is)
    (case k_Day_balance => k_is)
    (case a_qcell_at => k_is)
    (case l_qcell_at => k_is)
    (case c_qcell_at => k_is)
    (case k_qcell_at => k_is)
    (case a_qwhole => k_is)
    (case l_qwhole => k_is)
    (case c_qwhole => k_is)
    (case k_qwhole => k_is)
    (case a_qkind => k_is)
    (case l_qkind => k_is)
    (case c_qkind => k_is)
    (case k_qkind => k_is)
    (case a_qowed => k_is)
    (case l_qowed => k_is)
    (case c_qowed => k_is)
    (case k_qowed => k_is)
    (case a_qpaid => k_is)
    (case l_qpaid => k_is)
    (case c_qpaid => k_is)
    (case k_qpaid => k_is)
    (case a_qno_house => k_is)
    (case l_qno_house => k_is)
    (case c_qno_house => k_is)
    (case k_qno_house => k_is)
    (case a_qno_number => k_is)
    (case l_qno_number => k_is)
    (case c_qno_number => k_is)
    (case k_qno_number => k_is)
    (case a_qtold => k_is)
    (case l_qtold => k_is)
    (case c_qtold => k_is)
    (case k_qtold => k_is)
    (case a_qstands => k_is)
    (case l_qstands => k_is)
    (case c_qstands => k_is)
    (case k_qstands => k_is)
    (case a_qno_count => k_is)
    (case l_qno_count => k_is)
    (case c_qno_count => k_is)
    (case k_qno_count => k_is)
    (case a_law => k_is)
    (case l_law => k_is)
    (case c_law => k_is)
    (case k_law => k_is)
#print axioms PySem.Challenge.cw_clearday_k10_a_day_kept_holds
