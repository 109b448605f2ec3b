import PyProof.Rows.All
import Wide.All
import OpenK.AllK
import Wide.FinOn
import HandS.ForMost
import HandS.Wide
import HandS.IsInst
import HandS.Style
import PySem.Challenge.RW_shortpapers_k60_noughts_of_spread_rows_c
set_option Elab.async false
set_option linter.all false
set_option maxRecDepth 100000
set_option maxHeartbeats 2000000
/-! Sem1: what a def computes, over plain data (D) and a small memory of things that change (Mem); the link to the layer's readings. -/
namespace Sm
open PySem PySem.Spec PyProof.Rows L2

/-! ### plain data -/
inductive D where
  | non | bl (b : Bool) | int (i : Int) | str (s : Str)
  | tup (ds : List D) | lst (ds : List D) | scr (ds : List D)
  | obj (c : Str) (fs : List (Str × D))
  | loc (n : Nat)
/-- a thing that may change, or one that no more does -/
inductive Cell where
  | lst (ds : List D) | obj (c : Str) (fs : List (Str × D)) | frz (d : D)
abbrev Mem := List Cell
inductive R (α : Type) where
  | ok (a : α) | bad
abbrev Env := List (Option D)
abbrev FE := Env → Mem → R (D × Mem)
abbrev FT := Env → Mem → R (Bool × Mem)
abbrev FA := Env → Mem → R (List D × Mem)
abbrev FB := D → Env → R Env
inductive Fl where
  | nx | rt (d : D) | bk | ct
abbrev FS := Env → Mem → R (Fl × Env × Mem)
abbrev Fn := List D → Mem → R (D × Mem)

/-! ### what stands for what: F what no more changes, G where the changing things stand -/
mutual
inductive Rp (K : PySem.W.Frag) (mg : Str → Option Value) (F : Hp) (G : List Addr) : V → D → Prop
  | non : Rp K mg F G .non .non
  | bl (b : Bool) : Rp K mg F G (.bl b) (.bl b)
  | int (i : Int) : Rp K mg F G (.int i) (.int i)
  | str (s : Str) : Rp K mg F G (.str s) (.str s)
  | tup {a : Addr} {xs : List V} {ds : List D} : SqT K F a xs → Rps K mg F G xs ds → Rp K mg F G (.ref a) (.tup ds)
  | lst {a : Addr} {xs : List V} {ds : List D} : F a = some (.lst xs) → Rps K mg F G xs ds → Rp K mg F G (.ref a) (.lst ds)
  | scr {a : Addr} {xs : List V} {ds : List D} : SqL K F a xs → Rps K mg F G xs ds → Rp K mg F G (.ref a) (.scr ds)
  | obj {a C dx : Addr} {c : Str} {fs : List (Str × V)} {ds : List (Str × D)} : mg c = some (.ref C) → F a = some (.ins C dx fs) → Rpf K mg F G fs ds → Rp K mg F G (.ref a) (.obj c ds)
  | loc {a : Addr} {n : Nat} : G[n]? = some a → Rp K mg F G (.ref a) (.loc n)
inductive Rps (K : PySem.W.Frag) (mg : Str → Option Value) (F : Hp) (G : List Addr) : List V → List D → Prop
  | nil : Rps K mg F G [] []
  | cons {v : V} {d : D} {vs : List V} {ds : List D} : Rp K mg F G v d → Rps K mg F G vs ds → Rps K mg F G (v :: vs) (d :: ds)
inductive Rpf (K : PySem.W.Frag) (mg : Str → Option Value) (F : Hp) (G : List Addr) : List (Str × V) → List (Str × D) → Prop
  | nil : Rpf K mg F G [] []
  | cons {f : Str} {v : V} {d : D} {vs : List (Str × V)} {ds : List (Str × D)} : Rp K mg F G v d → Rpf K mg F G vs ds → Rpf K mg F G ((f, v) :: vs) ((f, d) :: ds)
end

def Ex (H H' : Hp) : Prop := ∀ a o, H a = some o → H' a = some o
theorem Ex.refl (H : Hp) : Ex H H := fun _ _ h => h
theorem Ex.trans {H H1 H2 : Hp} (a : Ex H H1) (b : Ex H1 H2) : Ex H H2 := fun x o h => b x o (a x o h)
theorem Ex.new {H : Hp} {p : Addr} {o : HO} (h : H p = none) : Ex H (upd H p o) := fun a u e => by
  rw [upd_ne (ne_of_none e h)]
  exact e
theorem Ex.back {H H' : Hp} {p : Addr} (e : Ex H H') (h : H' p = none) : H p = none := by
  cases h1 : H p with
  | none => rfl
  | some o =>
    rw [e p o h1] at h
    cases h
theorem ex_rd {H H' : Hp} {a : Addr} {u : HO} (e : Ex H H') (h : Rd H a u) : Rd H' a u := by
  rcases h with h | ⟨o, h⟩
  · exact Or.inl (e a _ h)
  · exact Or.inr ⟨o, e a _ h⟩
theorem ex_l {K : PySem.W.Frag} {H H' : Hp} {a : Addr} {xs : List V} (e : Ex H H') (h : SqL K H a xs) : SqL K H' a xs := by
  rcases h with h | h
  · exact Or.inl (ex_rd e h)
  · exact Or.inr h
theorem ex_t {K : PySem.W.Frag} {H H' : Hp} {a : Addr} {xs : List V} (e : Ex H H') (h : SqT K H a xs) : SqT K H' a xs := by
  rcases h with h | h
  · exact Or.inl (ex_rd e h)
  · exact Or.inr h

/-- one list of places begins the other -/
def Pre (G G' : List Addr) : Prop := ∀ (n : Nat) (a : Addr), G[n]? = some a → G'[n]? = some a
theorem Pre.refl (G : List Addr) : Pre G G := fun _ _ h => h
theorem Pre.trans {G G1 G2 : List Addr} (a : Pre G G1) (b : Pre G1 G2) : Pre G G2 := fun n x h => b n x (a n x h)

section
variable {K : PySem.W.Frag} {mg : Str → Option Value} {F F' H H' : Hp} {G G' : List Addr}
theorem Rp.mono {v : V} {d : D} (h : Rp K mg F G v d) (e : Ex F F') (g : Pre G G') : Rp K mg F' G' v d :=
  Rp.rec (motive_1 := fun v d _ => Rp K mg F' G' v d) (motive_2 := fun vs ds _ => Rps K mg F' G' vs ds) (motive_3 := fun vs ds _ => Rpf K mg F' G' vs ds)
    .non .bl .int .str (fun h _ r => .tup (ex_t e h) r) (fun h _ r => .lst (e _ _ h) r) (fun h _ r => .scr (ex_l e h) r) (fun c h _ r => .obj c (e _ _ h) r) (fun h => .loc (g _ _ h))
    .nil (fun _ _ a b => .cons a b) .nil (fun _ _ a b => .cons a b) h
theorem Rps.mono {vs : List V} {ds : List D} (h : Rps K mg F G vs ds) (e : Ex F F') (g : Pre G G') : Rps K mg F' G' vs ds :=
  Rps.rec (motive_1 := fun v d _ => Rp K mg F' G' v d) (motive_2 := fun vs ds _ => Rps K mg F' G' vs ds) (motive_3 := fun vs ds _ => Rpf K mg F' G' vs ds)
    .non .bl .int .str (fun h _ r => .tup (ex_t e h) r) (fun h _ r => .lst (e _ _ h) r) (fun h _ r => .scr (ex_l e h) r) (fun c h _ r => .obj c (e _ _ h) r) (fun h => .loc (g _ _ h))
    .nil (fun _ _ a b => .cons a b) .nil (fun _ _ a b => .cons a b) h
theorem Rpf.mono {vs : List (Str × V)} {ds : List (Str × D)} (h : Rpf K mg F G vs ds) (e : Ex F F') (g : Pre G G') : Rpf K mg F' G' vs ds :=
  Rpf.rec (motive_1 := fun v d _ => Rp K mg F' G' v d) (motive_2 := fun vs ds _ => Rps K mg F' G' vs ds) (motive_3 := fun vs ds _ => Rpf K mg F' G' vs ds)
    .non .bl .int .str (fun h _ r => .tup (ex_t e h) r) (fun h _ r => .lst (e _ _ h) r) (fun h _ r => .scr (ex_l e h) r) (fun c h _ r => .obj c (e _ _ h) r) (fun h => .loc (g _ _ h))
    .nil (fun _ _ a b => .cons a b) .nil (fun _ _ a b => .cons a b) h
theorem Rps.length : ∀ {vs : List V} {ds : List D}, Rps K mg F G vs ds → vs.length = ds.length
  | _, _, .nil => rfl
  | _, _, .cons _ t => congrArg (· + 1) (Rps.length t)
theorem Rps.get : ∀ {vs : List V} {ds : List D} {i : Nat} {d : D}, Rps K mg F G vs ds → ds[i]? = some d → ∃ v, vs[i]? = some v ∧ Rp K mg F G v d
  | _, _, _, _, .nil, e => by simp at e
  | _, _, 0, _, .cons r _, e => by simp at e; subst e; exact ⟨_, rfl, r⟩
  | _, _, i + 1, d, .cons _ t, e => by
    obtain ⟨v, h1, h2⟩ := Rps.get (i := i) (d := d) t (by simpa using e)
    exact ⟨v, by simpa using h1, h2⟩
theorem Rps.getV : ∀ {vs : List V} {ds : List D} {i : Nat} {v : V}, Rps K mg F G vs ds → vs[i]? = some v → ∃ d, ds[i]? = some d ∧ Rp K mg F G v d
  | _, _, _, _, .nil, e => by simp at e
  | _, _, 0, _, .cons r _, e => by simp at e; subst e; exact ⟨_, rfl, r⟩
  | _, _, i + 1, d, .cons _ t, e => by
    obtain ⟨v, h1, h2⟩ := Rps.getV (i := i) (v := d) t (by simpa using e)
    exact ⟨v, by simpa using h1, h2⟩
theorem Rps.append : ∀ {vs ws : List V} {ds es : List D}, Rps K mg F G vs ds → Rps K mg F G ws es → Rps K mg F G (vs ++ ws) (ds ++ es)
  | _, _, _, _, .nil, s => s
  | _, _, _, _, .cons r t, s => .cons r (Rps.append t s)
theorem Rps.take : ∀ {vs : List V} {ds : List D} (n : Nat), Rps K mg F G vs ds → Rps K mg F G (vs.take n) (ds.take n)
  | _, _, 0, _ => .nil
  | _, _, _ + 1, .nil => .nil
  | _, _, n + 1, .cons r t => .cons r (Rps.take n t)
theorem Rps.drop : ∀ {vs : List V} {ds : List D} (n : Nat), Rps K mg F G vs ds → Rps K mg F G (vs.drop n) (ds.drop n)
  | _, _, 0, r => r
  | _, _, _ + 1, .nil => .nil
  | _, _, n + 1, .cons _ t => Rps.drop n t
theorem Rps.set {v : V} {d : D} (r : Rp K mg F G v d) : ∀ {vs : List V} {ds : List D} (i : Nat), Rps K mg F G vs ds → Rps K mg F G (vs.set i v) (ds.set i d)
  | _, _, _, .nil => .nil
  | _, _, 0, .cons _ t => .cons r t
  | _, _, i + 1, .cons q t => .cons q (Rps.set r i t)
theorem Rps.erase : ∀ {vs : List V} {ds : List D} (i : Nat), Rps K mg F G vs ds → Rps K mg F G (vs.eraseIdx i) (ds.eraseIdx i)
  | _, _, _, .nil => .nil
  | _, _, 0, .cons _ t => t
  | _, _, i + 1, .cons q t => .cons q (Rps.erase i t)
theorem Rps.dropLast {vs : List V} {ds : List D} (h : Rps K mg F G vs ds) : Rps K mg F G vs.dropLast ds.dropLast := by
  rw [List.dropLast_eq_take, List.dropLast_eq_take, h.length]
  exact h.take _
theorem Rps.reverse : ∀ {vs : List V} {ds : List D}, Rps K mg F G vs ds → Rps K mg F G vs.reverse ds.reverse
  | _, _, .nil => .nil
  | _, _, .cons r t => by
    rw [List.reverse_cons, List.reverse_cons]
    exact Rps.append (Rps.reverse t) (.cons r .nil)
theorem Rps.ints : ∀ {vs : List V} {ns : List Int}, Rps K mg F G vs (ns.map D.int) → vs = ns.map V.int
  | _, [], h => by cases h; rfl
  | _, n :: ns, h => by
    cases h with
    | cons r t =>
      cases r
      rw [Rps.ints t]
      rfl
theorem Rps.of_ints : ∀ ns : List Int, Rps K mg F G (ns.map V.int) (ns.map D.int)
  | [] => .nil
  | n :: ns => .cons (.int n) (Rps.of_ints ns)

/-! ### the memory -/
inductive CellOk (K : PySem.W.Frag) (mg : Str → Option Value) (F H : Hp) (G : List Addr) (a : Addr) : Cell → Prop
  | lst {xs : List V} {ds : List D} : H a = some (.lst xs) → F a = none → Rps K mg F G xs ds → CellOk K mg F H G a (.lst ds)
  | obj {C dx : Addr} {c : Str} {fs : List (Str × V)} {ds : List (Str × D)} : mg c = some (.ref C) → H a = some (.ins C dx fs) → F a = none → Rpf K mg F G fs ds → CellOk K mg F H G a (.obj c ds)
  | frz {d : D} : Rp K mg F G (.ref a) d → (∃ o, F a = some o) → CellOk K mg F H G a (.frz d)
structure Rm (K : PySem.W.Frag) (mg : Str → Option Value) (F H : Hp) (G : List Addr) (m : Mem) : Prop where
  len : G.length = m.length
  inj : ∀ (i j : Nat) (a : Addr), G[i]? = some a → G[j]? = some a → i = j
  sub : Ex F H
  cell : ∀ (n : Nat) (a : Addr) (c : Cell), G[n]? = some a → m[n]? = some c → CellOk K mg F H G a c
/-- from one state to a later one -/
structure Go (F H : Hp) (G : List Addr) (F' H' : Hp) (G' : List Addr) : Prop where
  f : Ex F F'
  g : Pre G G'
  keep : ∀ x o, H x = some o → x ∉ G → H' x = some o
  thin : ∀ x o, H x = some o → x ∉ G → F x = none → F' x = none
  new : ∀ x, x ∈ G' → x ∈ G ∨ H x = none
  there : ∀ x o, H x = some o → ∃ o', H' x = some o'
theorem Go.refl : Go F H G F H G := ⟨Ex.refl _, Pre.refl _, fun _ _ h _ => h, fun _ _ _ _ h => h, fun _ h => .inl h, fun _ o h => ⟨o, h⟩⟩
theorem Go.trans {F1 F2 H1 H2 : Hp} {G1 G2 : List Addr} (a : Go F H G F1 H1 G1) (b : Go F1 H1 G1 F2 H2 G2) : Go F H G F2 H2 G2 where
  f := a.f.trans b.f
  g := a.g.trans b.g
  keep := fun x o h n => b.keep x o (a.keep x o h n) fun q => (a.new x q).elim n fun e => by rw [e] at h; cases h
  thin := fun x o h n e => b.thin x o (a.keep x o h n) (fun q => (a.new x q).elim n fun e => by rw [e] at h; cases h) (a.thin x o h n e)
  new := fun x q => by
    rcases b.new x q with q | q
    · exact a.new x q
    · refine .inr ?_
      cases e : H x with
      | none => rfl
      | some o =>
        obtain ⟨o', e'⟩ := a.there x o e
        rw [q] at e'
        cases e'
  there := fun x o h => by
    obtain ⟨o', h'⟩ := a.there x o h
    exact b.there x o' h'
theorem Go.back {F1 H1 : Hp} {G1 : List Addr} (a : Go F H G F1 H1 G1) {x : Addr} (h : H1 x = none) : H x = none := by
  cases e : H x with
  | none => rfl
  | some o =>
    obtain ⟨o', e'⟩ := a.there x o e
    rw [h] at e'
    cases e'
theorem CellOk.there {a : Addr} {c : Cell} {m : Mem} (h : CellOk K mg F H G a c) (s : Ex F H) : ∃ o, H a = some o := by
  cases h with
  | lst e _ _ => exact ⟨_, e⟩
  | obj _ e _ _ => exact ⟨_, e⟩
  | frz _ e =>
    obtain ⟨o, e⟩ := e
    exact ⟨o, s a o e⟩
theorem Rm.there {m : Mem} (r : Rm K mg F H G m) {a : Addr} (h : a ∈ G) : ∃ o, H a = some o := by
  obtain ⟨n, hn⟩ := List.getElem?_of_mem h
  have hl : n < m.length := by
    rw [← r.len]
    exact (List.getElem?_eq_some_iff.mp hn).1
  exact CellOk.there (m := m) (r.cell n a _ hn (List.getElem?_eq_getElem hl)) r.sub
theorem Rm.fresh {m : Mem} (r : Rm K mg F H G m) {p : Addr} (h : H p = none) : p ∉ G := fun q => by
  obtain ⟨o, e⟩ := r.there q
  rw [h] at e
  cases e
theorem Rm.freshF {m : Mem} (r : Rm K mg F H G m) {p : Addr} (h : H p = none) : F p = none := r.sub.back h
/-- a new thing that will not change -/
theorem Rm.lay {m : Mem} (r : Rm K mg F H G m) {p : Addr} {o : HO} (h : H p = none) : Rm K mg (upd F p o) (upd H p o) G m ∧ Go F H G (upd F p o) (upd H p o) G := by
  have hf := r.freshF h
  have hg := r.fresh h
  have ef : Ex F (upd F p o) := Ex.new hf
  refine ⟨⟨r.len, r.inj, fun a u e => ?_, fun n a c hn hm => ?_⟩, ⟨ef, Pre.refl _, fun x u e _ => Ex.new h x u e, fun x u e _ q => ?_, fun _ q => .inl q, fun x u e => ⟨u, Ex.new h x u e⟩⟩⟩
  · by_cases q : a = p
    · subst q; rw [upd_same] at e ⊢; exact e
    · rw [upd_ne q] at e ⊢; exact r.sub a u e
  · have na : a ≠ p := fun q => hg (q ▸ List.mem_of_getElem? hn)
    cases r.cell n a c hn hm with
    | lst e1 e2 e3 => exact .lst (by rw [upd_ne na]; exact e1) (by rw [upd_ne na]; exact e2) (e3.mono ef (Pre.refl _))
    | obj e0 e1 e2 e3 => exact .obj e0 (by rw [upd_ne na]; exact e1) (by rw [upd_ne na]; exact e2) (e3.mono ef (Pre.refl _))
    | frz e1 e2 =>
      obtain ⟨u, e2⟩ := e2
      exact .frz (e1.mono ef (Pre.refl _)) ⟨u, ef a u e2⟩
  · rw [upd_ne (ne_of_none e h)]; exact q
theorem pre_snoc (G : List Addr) (p : Addr) : Pre G (G ++ [p]) := fun n a h => by
  rw [List.getElem?_append_left (List.getElem?_eq_some_iff.mp h).1]
  exact h
/-- a new list that may change -/
theorem Rm.layL {m : Mem} (r : Rm K mg F H G m) {p : Addr} {xs : List V} {ds : List D} (h : H p = none) (q : Rps K mg F G xs ds) : Rm K mg F (upd H p (.lst xs)) (G ++ [p]) (m ++ [.lst ds]) ∧ Go F H G F (upd H p (.lst xs)) (G ++ [p]) := by
  have hf := r.freshF h
  have hg := r.fresh h
  have eh : Ex H (upd H p (.lst xs)) := Ex.new h
  refine ⟨⟨by rw [List.length_append, List.length_append, r.len]; rfl, fun i j a hi hj => ?_, r.sub.trans eh, fun n a c hn hm => ?_⟩, ⟨Ex.refl _, pre_snoc G p, fun x u e _ => eh x u e, fun x u e _ q => q, fun x q => ?_, fun x u e => ⟨u, eh x u e⟩⟩⟩
  · by_cases hi' : i < G.length
    · rw [List.getElem?_append_left hi'] at hi
      by_cases hj' : j < G.length
      · rw [List.getElem?_append_left hj'] at hj
        exact r.inj i j a hi hj
      · rw [List.getElem?_append_right (by omega)] at hj
        obtain ⟨l, rfl⟩ := List.getElem?_eq_some_iff.mp hj
        exact absurd (List.mem_of_getElem? hi) (by simpa using hg)
    · rw [List.getElem?_append_right (by omega)] at hi
      obtain ⟨l, e⟩ := List.getElem?_eq_some_iff.mp hi
      by_cases hj' : j < G.length
      · rw [List.getElem?_append_left hj'] at hj
        have : a = p := by rw [← e]; simp
        exact absurd (List.mem_of_getElem? hj) (by rw [this]; exact hg)
      · rw [List.getElem?_append_right (by omega)] at hj
        obtain ⟨l2, e2⟩ := List.getElem?_eq_some_iff.mp hj
        simp at l l2
        omega
  · by_cases hn' : n < G.length
    · rw [List.getElem?_append_left hn'] at hn
      rw [List.getElem?_append_left (by rw [← r.len]; exact hn')] at hm
      have na : a ≠ p := fun q => hg (q ▸ List.mem_of_getElem? hn)
      cases r.cell n a c hn hm with
      | lst e1 e2 e3 => exact .lst (by rw [upd_ne na]; exact e1) e2 (e3.mono (Ex.refl _) (pre_snoc G p))
      | obj e0 e1 e2 e3 => exact .obj e0 (by rw [upd_ne na]; exact e1) e2 (e3.mono (Ex.refl _) (pre_snoc G p))
      | frz e1 e2 => exact .frz (e1.mono (Ex.refl _) (pre_snoc G p)) e2
    · rw [List.getElem?_append_right (by omega)] at hn
      rw [List.getElem?_append_right (by rw [← r.len]; omega)] at hm
      obtain ⟨l, e⟩ := List.getElem?_eq_some_iff.mp hn
      obtain ⟨l2, e2⟩ := List.getElem?_eq_some_iff.mp hm
      have ea : a = p := by rw [← e]; simp
      have ec : c = .lst ds := by rw [← e2]; simp
      subst ea ec
      exact .lst upd_same hf (q.mono (Ex.refl _) (pre_snoc G a))
  · rcases List.mem_append.mp q with q | q
    · exact .inl q
    · exact .inr (by rw [List.mem_singleton.mp q]; exact h)
/-- a list is changed -/
theorem Rm.put {m : Mem} (r : Rm K mg F H G m) {n : Nat} {a : Addr} {xs : List V} {ds ds' : List D} (hn : G[n]? = some a) (hm : m[n]? = some (.lst ds)) (q : Rps K mg F G xs ds') : Rm K mg F (upd H a (.lst xs)) G (m.set n (.lst ds')) ∧ Go F H G F (upd H a (.lst xs)) G := by
  have ha := List.mem_of_getElem? hn
  have c0 := r.cell n a _ hn hm
  have fa : F a = none := by cases c0; assumption
  have oa : ∃ o, H a = some o := r.there ha
  refine ⟨⟨by rw [List.length_set]; exact r.len, r.inj, fun b u e => ?_, fun k b c hk hc => ?_⟩, ⟨Ex.refl _, Pre.refl _, fun x u e nx => ?_, fun _ _ _ _ q => q, fun _ q => .inl q, fun x u e => ?_⟩⟩
  · rw [upd_ne (ne_of_none e fa)]; exact r.sub b u e
  · by_cases e : k = n
    · subst e
      rw [hn] at hk; cases hk
      rw [List.getElem?_set_self (List.getElem?_eq_some_iff.mp hm).1] at hc
      cases hc
      exact .lst upd_same fa q
    · rw [List.getElem?_set_ne (Ne.symm e)] at hc
      have nb : b ≠ a := fun z => e (r.inj k n a (z ▸ hk) hn)
      cases r.cell k b c hk hc with
      | lst e1 e2 e3 => exact .lst (by rw [upd_ne nb]; exact e1) e2 e3
      | obj e0 e1 e2 e3 => exact .obj e0 (by rw [upd_ne nb]; exact e1) e2 e3
      | frz e1 e2 => exact .frz e1 e2
  · rw [upd_ne (show x ≠ a from fun z => nx (by rw [z]; exact ha))]; exact e
  · by_cases z : x = a
    · exact ⟨_, by rw [z]; exact upd_same⟩
    · exact ⟨u, by rw [upd_ne z]; exact e⟩
/-- a list that will not change any more -/
theorem Rm.freeze {m : Mem} (r : Rm K mg F H G m) {n : Nat} {a : Addr} {ds : List D} (hn : G[n]? = some a) (hm : m[n]? = some (.lst ds)) : ∃ F', Rm K mg F' H G (m.set n (.frz (.lst ds))) ∧ Go F H G F' H G ∧ Rp K mg F' G (.ref a) (.lst ds) := by
  have ha := List.mem_of_getElem? hn
  cases r.cell n a _ hn hm with
  | @lst xs _ e1 e2 e3 =>
    have ef : Ex F (upd F a (.lst xs)) := Ex.new e2
    refine ⟨upd F a (.lst xs), ⟨by rw [List.length_set]; exact r.len, r.inj, fun b u e => ?_, fun k b c hk hc => ?_⟩, ⟨ef, Pre.refl _, fun x u e nx => e, fun x u e nx q => ?_, fun _ q => .inl q, fun x u e => ⟨u, e⟩⟩, .lst upd_same (e3.mono ef (Pre.refl _))⟩
    · by_cases z : b = a
      · subst z; rw [upd_same] at e; rw [← e]; exact e1
      · rw [upd_ne z] at e; exact r.sub b u e
    · by_cases e : k = n
      · subst e
        rw [hn] at hk; cases hk
        rw [List.getElem?_set_self (List.getElem?_eq_some_iff.mp hm).1] at hc
        cases hc
        exact .frz (.lst upd_same (e3.mono ef (Pre.refl _))) ⟨_, upd_same⟩
      · rw [List.getElem?_set_ne (Ne.symm e)] at hc
        have nb : b ≠ a := fun z => e (r.inj k n a (z ▸ hk) hn)
        cases r.cell k b c hk hc with
        | lst e1 e2 e3 => exact .lst e1 (by rw [upd_ne nb]; exact e2) (e3.mono ef (Pre.refl _))
        | obj e0 e1 e2 e3 => exact .obj e0 e1 (by rw [upd_ne nb]; exact e2) (e3.mono ef (Pre.refl _))
        | frz e1 e2 =>
          obtain ⟨u, e2⟩ := e2
          exact .frz (e1.mono ef (Pre.refl _)) ⟨u, ef b u e2⟩
    · rw [upd_ne (show x ≠ a from fun z => nx (by rw [z]; exact ha))]; exact q

/-! ### the slots -/
structure Re (K : PySem.W.Frag) (mg : Str → Option Value) (F : Hp) (G : List Addr) (σ : L2.St) (env : Env) : Prop where
  len : σ.length = env.length
  has : ∀ (i : Nat) (d : D), env[i]? = some (some d) → ∃ v, σ[i]? = some (some v) ∧ Rp K mg F G v d
theorem Re.mono {σ : L2.St} {env : Env} (h : Re K mg F G σ env) (e : Ex F F') (g : Pre G G') : Re K mg F' G' σ env :=
  ⟨h.len, fun i d q => let ⟨v, a, b⟩ := h.has i d q; ⟨v, a, b.mono e g⟩⟩
theorem Re.go {σ : L2.St} {env : Env} {H H' : Hp} (h : Re K mg F G σ env) (g : Go F H G F' H' G') : Re K mg F' G' σ env := h.mono g.f g.g
theorem Rp.go {v : V} {d : D} {H H' : Hp} (h : Rp K mg F G v d) (g : Go F H G F' H' G') : Rp K mg F' G' v d := h.mono g.f g.g
theorem Rps.go {v : List V} {d : List D} {H H' : Hp} (h : Rps K mg F G v d) (g : Go F H G F' H' G') : Rps K mg F' G' v d := h.mono g.f g.g
theorem Re.set {σ : L2.St} {env : Env} {v : V} {d : D} (h : Re K mg F G σ env) (i : Nat) (r : Rp K mg F G v d) : Re K mg F G (σ.set i (some v)) (env.set i (some d)) := by
  refine ⟨by rw [List.length_set, List.length_set]; exact h.len, fun j e q => ?_⟩
  by_cases hj : i = j
  · subst hj
    have hl : i < env.length := by
      have := (List.getElem?_eq_some_iff.mp q).1
      rw [List.length_set] at this
      exact this
    rw [List.getElem?_set_self hl] at q
    cases q
    exact ⟨v, by rw [List.getElem?_set_self (by rw [h.len]; exact hl)], r⟩
  · rw [List.getElem?_set_ne hj] at q
    obtain ⟨w, a, b⟩ := h.has j e q
    exact ⟨w, by rw [List.getElem?_set_ne hj]; exact a, b⟩
end

/-! ### the readings that say what is computed -/
section
variable (K : PySem.W.Frag) (mg : Str → Option Value)
def eT (f : FE) : TE := fun σ H Q => ∃ F G m env d m', Rm K mg F H G m ∧ Re K mg F G σ env ∧ f env m = .ok (d, m') ∧ ∀ v F' H' G', Go F H G F' H' G' → Rm K mg F' H' G' m' → Rp K mg F' G' v d → Q v H'
def tT (f : FT) : TT := fun σ H Q => ∃ F G m env b m', Rm K mg F H G m ∧ Re K mg F G σ env ∧ f env m = .ok (b, m') ∧ ∀ F' H' G', Go F H G F' H' G' → Rm K mg F' H' G' m' → Q b H'
def aT (f : FA) : TA := fun σ H Q => ∃ F G m env ds m', Rm K mg F H G m ∧ Re K mg F G σ env ∧ f env m = .ok (ds, m') ∧ ∀ vs F' H' G', Go F H G F' H' G' → Rm K mg F' H' G' m' → Rps K mg F' G' vs ds → Q vs H'
/-- what a statement's end wants -/
def endT (D : Ends) (F : Hp) (G : List Addr) (σ : L2.St) (H : Hp) : Fl → Prop
  | .nx => D.nx σ H
  | .bk => D.bk σ H
  | .ct => D.ct σ H
  | .rt d => ∀ v, Rp K mg F G v d → D.rt v H
def sT (f : FS) : TS := fun D σ H => ∃ F G m env r, Rm K mg F H G m ∧ Re K mg F G σ env ∧ f env m = .ok r ∧ ∀ σ' F' H' G', Go F H G F' H' G' → Rm K mg F' H' G' r.2.2 → Re K mg F' G' σ' r.2.1 → endT K mg D F' G' σ' H' r.1
end
abbrev SE (X : Cx) (e : Expr) (f : FE) : Prop := PE X e (eT X.K X.mg f)
abbrev ST (X : Cx) (e : Expr) (f : FT) : Prop := PT X e (tT X.K X.mg f)
abbrev SW (X : Cx) (e : Expr) (f : FT) : Prop := PW X e (tT X.K X.mg f)
abbrev SA (X : Cx) (es : List Expr) (f : FA) : Prop := PA X es (aT X.K X.mg f)
abbrev SS (X : Cx) (st : Stmt) (f : FS) : Prop := PS X st (sT X.K X.mg f)
abbrev SSs (X : Cx) (st : List Stmt) (f : FS) : Prop := PSs X st (sT X.K X.mg f)
theorem se_of {X : Cx} {e : Expr} {t : TE} {f : FE} (h : PE X e t) (i : ∀ σ H Q, eT X.K X.mg f σ H Q → t σ H Q) : SE X e f := ⟨fun pins s σ H Q I q => h.run pins s σ H Q I (i σ H Q q)⟩
theorem st_of {X : Cx} {e : Expr} {t : TT} {f : FT} (h : PT X e t) (i : ∀ σ H Q, tT X.K X.mg f σ H Q → t σ H Q) : ST X e f := ⟨fun pins s σ H Q I q => h.run pins s σ H Q I (i σ H Q q)⟩
theorem sw_of {X : Cx} {e : Expr} {t : TT} {f : FT} (h : PW X e t) (i : ∀ σ H Q, tT X.K X.mg f σ H Q → t σ H Q) : SW X e f := ⟨fun wh pins s σ H Q I q => h.run wh pins s σ H Q I (i σ H Q q)⟩
theorem sa_of {X : Cx} {e : List Expr} {t : TA} {f : FA} (h : PA X e t) (i : ∀ σ H Q, aT X.K X.mg f σ H Q → t σ H Q) : SA X e f := ⟨fun pos pins s σ H Q I q => h.run pos pins s σ H Q I (i σ H Q q)⟩
theorem ss_of {X : Cx} {e : Stmt} {t : TS} {f : FS} (h : PS X e t) (i : ∀ D σ H, sT X.K X.mg f D σ H → t D σ H) : SS X e f := ⟨fun pins s σ H D I q => h.run pins s σ H D I (i D σ H q)⟩
theorem sss_of {X : Cx} {e : List Stmt} {t : TS} {f : FS} (h : PSs X e t) (i : ∀ D σ H, sT X.K X.mg f D σ H → t D σ H) : SSs X e f := ⟨fun pins s σ H D I q => h.run pins s σ H D I (i D σ H q)⟩

/-! ### names, constants -/
def fVar (i : Nat) : FE := fun env m => match env[i]? with
  | some (some d) => .ok (d, m)
  | _ => .bad
def fC (d : D) : FE := fun _ m => .ok (d, m)
section
variable {X : Cx} {a b : Expr} {fa fb : FE} {pos : Pos} {x : Str}
theorem se_var (i : Nat) (hN : X.N[i]? = some x := by rfl) (hv : Vis X.env.scope x := by first | exact Or.inl rfl | exact Or.inr (Or.inl rfl) | exact Or.inr (Or.inr rfl)) (hd : (x == ("__debug__" : Str)) = false := by decide)
    (hcd : (x == ("__classdict__" : Str)) = false := by decide) : SE X (.Name x pos) (fVar i) := se_of (pe_var hN hv hd hcd) fun σ H Q h => by
  obtain ⟨F, G, m, env, d, m', rm, re, e, q⟩ := h
  unfold fVar at e
  split at e
  · rename_i d' hd'
    cases e
    obtain ⟨v, hv, r⟩ := re.has i d hd'
    exact ⟨v, hv, q v F H G .refl rm r⟩
  · cases e
theorem se_c {v : V} {d : D} {e : Expr} (h : PE X e (tC v)) (r : ∀ F G, Rp X.K X.mg F G v d) : SE X e (fC d) := se_of h fun σ H Q h => by
  obtain ⟨F, G, m, env, d', m', rm, re, e, q⟩ := h
  cases e
  exact q v F H G .refl rm (r F G)
theorem se_int {i j} : SE X (.Constant (.int i) j pos) (fC (.int i)) := se_c pe_int fun _ _ => .int i
theorem se_bl {i j} : SE X (.Constant (.bool i) j pos) (fC (.bl i)) := se_c pe_bl fun _ _ => .bl i
theorem se_non {j} : SE X (.Constant .none j pos) (fC .non) := se_c pe_non fun _ _ => .non
theorem se_str {i j} : SE X (.Constant (.str i) j pos) (fC (.str i)) := se_c pe_str fun _ _ => .str i

/-! ### operators -/
def fBin (g : D → D → Mem → R (D × Mem)) (fa fb : FE) : FE := fun env m => match fa env m with
  | .ok (x, m1) => (match fb env m1 with
    | .ok (y, m2) => g x y m2
    | .bad => .bad)
  | .bad => .bad
def fUn (g : D → Mem → R (D × Mem)) (fa : FE) : FE := fun env m => match fa env m with
  | .ok (x, m1) => g x m1
  | .bad => .bad
/-- an operator on values and what it computes -/
def Op2 (K : PySem.W.Frag) (mg : Str → Option Value) (r : R2) (g : D → D → Mem → R (D × Mem)) : Prop := ∀ F H G m x y dx dy d m', Rm K mg F H G m → Rp K mg F G x dx → Rp K mg F G y dy → g dx dy m = .ok (d, m') →
  ∀ Q : VK, (∀ v F' H' G', Go F H G F' H' G' → Rm K mg F' H' G' m' → Rp K mg F' G' v d → Q v H') → r x y H Q
def Op1 (K : PySem.W.Frag) (mg : Str → Option Value) (r : V → Hp → VK → Prop) (g : D → Mem → R (D × Mem)) : Prop := ∀ F H G m x dx d m', Rm K mg F H G m → Rp K mg F G x dx → g dx m = .ok (d, m') →
  ∀ Q : VK, (∀ v F' H' G', Go F H G F' H' G' → Rm K mg F' H' G' m' → Rp K mg F' G' v d → Q v H') → r x H Q
def OpN (K : PySem.W.Frag) (mg : Str → Option Value) (r : List V → Hp → VK → Prop) (g : Fn) : Prop := ∀ F H G m xs dxs d m', Rm K mg F H G m → Rps K mg F G xs dxs → g dxs m = .ok (d, m') →
  ∀ Q : VK, (∀ v F' H' G', Go F H G F' H' G' → Rm K mg F' H' G' m' → Rp K mg F' G' v d → Q v H') → r xs H Q
theorem imp_op {K : PySem.W.Frag} {mg : Str → Option Value} {r : R2} {g : D → D → Mem → R (D × Mem)} (h : Op2 K mg r g) : ∀ σ H Q, eT K mg (fBin g fa fb) σ H Q → tOp r (eT K mg fa) (eT K mg fb) σ H Q := fun σ H Q h' => by
  obtain ⟨F, G, m, env, d, m', rm, re, e, q⟩ := h'
  unfold fBin at e
  split at e
  · rename_i dx m1 e1
    split at e
    · rename_i dy m2 e2
      refine ⟨F, G, m, env, dx, m1, rm, re, e1, fun x F1 H1 G1 go1 rm1 rp1 => ⟨F1, G1, m1, env, dy, m2, rm1, re.go go1, e2, fun y F2 H2 G2 go2 rm2 rp2 => ?_⟩⟩
      exact h F2 H2 G2 m2 x y dx dy d m' rm2 (rp1.go go2) rp2 e Q fun v F' H' G' go3 rm3 rp3 => q v F' H' G' ((go1.trans go2).trans go3) rm3 rp3
    · cases e
  · cases e
theorem imp_un {K : PySem.W.Frag} {mg : Str → Option Value} {r : V → Hp → VK → Prop} {g : D → Mem → R (D × Mem)} (h : Op1 K mg r g) : ∀ σ H Q, eT K mg (fUn g fa) σ H Q → tUn r (eT K mg fa) σ H Q := fun σ H Q h' => by
  obtain ⟨F, G, m, env, d, m', rm, re, e, q⟩ := h'
  unfold fUn at e
  split at e
  · rename_i dx m1 e1
    refine ⟨F, G, m, env, dx, m1, rm, re, e1, fun x F1 H1 G1 go1 rm1 rp1 => ?_⟩
    exact h F1 H1 G1 m1 x dx d m' rm1 rp1 e Q fun v F' H' G' go3 rm3 rp3 => q v F' H' G' (go1.trans go3) rm3 rp3
  · cases e
theorem se_op {op : Operator} {r : R2} {g : D → D → Mem → R (D × Mem)} (ho : OpR X (binaryOp op) r) (hg : Op2 X.K X.mg r g) (ha : SE X a fa) (hb : SE X b fb) : SE X (.BinOp a op b pos) (fBin g fa fb) :=
  se_of (pe_op ho ha hb) (imp_op hg)
theorem se_un {op : UnaryOp} {r : V → Hp → VK → Prop} {g : D → Mem → R (D × Mem)} (ho : UnR X (unaryOp op) r) (hg : Op1 X.K X.mg r g) (ha : SE X a fa) : SE X (.UnaryOp op a pos) (fUn g fa) :=
  se_of (pe_un ho ha) (imp_un hg)
theorem se_cmp {op : CmpOp} {r : R2} {g : D → D → Mem → R (D × Mem)} (ho : OpR X (compareOp op) r) (hg : Op2 X.K X.mg r g) (ha : SE X a fa) (hb : SE X b fb) (hm : behindInMarks op b = false) : SE X (.Compare a [op] [b] pos) (fBin g fa fb) :=
  se_of (pe_cmpR ho ha hb hm) (imp_op hg)
/-- a value that is a bool, as a test -/
def fTest (fa : FE) : FT := fun env m => match fa env m with
  | .ok (.bl b, m1) => .ok (b, m1)
  | _ => .bad
theorem imp_test {K : PySem.W.Frag} {mg : Str → Option Value} {t : TE} (h : ∀ σ H Q, eT K mg fa σ H Q → t σ H Q) : ∀ σ H Q, tT K mg (fTest fa) σ H Q → tTest t σ H Q := fun σ H Q h' => by
  obtain ⟨F, G, m, env, b, m', rm, re, e, q⟩ := h'
  unfold fTest at e
  split at e
  · rename_i c m1 e1
    cases e
    refine h _ _ _ ⟨F, G, m, env, _, _, rm, re, e1, fun x F1 H1 G1 go1 rm1 rp1 => ?_⟩
    cases rp1
    exact ⟨_, rfl, q F1 H1 G1 go1 rm1⟩
  · cases e
theorem st_cmp {op : CmpOp} {r : R2} {g : D → D → Mem → R (D × Mem)} (ho : OpR X (compareOp op) r) (hg : Op2 X.K X.mg r g) (ha : SE X a fa) (hb : SE X b fb) (hm : behindInMarks op b = false) : ST X (.Compare a [op] [b] pos) (fTest (fBin g fa fb)) :=
  st_of (pt_cmpR ho ha hb hm) (imp_test (imp_op hg))
theorem st_val {e : Expr} (h : SE X e fa) (he : ∀ whole, isTrue e X.env whole = (do let v ← whole; standAt e.pos; holding [v] (truthy v)) := by intro _; rfl) : ST X e (fTest fa) :=
  st_of (pt_val h he) fun σ H Q q => imp_test (fun _ _ _ z => z) σ H Q q

/-! ### and, or, not, if -/
def fAnd (s t : FT) : FT := fun env m => match s env m with
  | .ok (true, m1) => t env m1
  | .ok (false, m1) => .ok (false, m1)
  | .bad => .bad
def fOr (s t : FT) : FT := fun env m => match s env m with
  | .ok (true, m1) => .ok (true, m1)
  | .ok (false, m1) => t env m1
  | .bad => .bad
def fNot (s : FT) : FT := fun env m => match s env m with
  | .ok (b, m1) => .ok (!b, m1)
  | .bad => .bad
def fBool (s : FT) : FE := fun env m => match s env m with
  | .ok (b, m1) => .ok (.bl b, m1)
  | .bad => .bad
def fIf (s : FT) (fa fb : FE) : FE := fun env m => match s env m with
  | .ok (true, m1) => fa env m1
  | .ok (false, m1) => fb env m1
  | .bad => .bad
section
variable {K : PySem.W.Frag} {mg : Str → Option Value} {s t : FT}
theorem imp_and : ∀ σ H Q, tT K mg (fAnd s t) σ H Q → tAnd (tT K mg s) (tT K mg t) σ H Q := fun σ H Q h' => by
  obtain ⟨F, G, m, env, b, m', rm, re, e, q⟩ := h'
  unfold fAnd at e
  split at e
  · rename_i m1 e1
    refine ⟨F, G, m, env, _, _, rm, re, e1, fun F1 H1 G1 go1 rm1 => ?_⟩
    exact iteT ⟨F1, G1, m1, env, b, m', rm1, re.go go1, e, fun F2 H2 G2 go2 rm2 => q F2 H2 G2 (go1.trans go2) rm2⟩
  · rename_i m1 e1
    cases e
    exact ⟨F, G, m, env, _, _, rm, re, e1, fun F1 H1 G1 go1 rm1 => iteF (q F1 H1 G1 go1 rm1)⟩
  · cases e
theorem imp_or : ∀ σ H Q, tT K mg (fOr s t) σ H Q → tOr (tT K mg s) (tT K mg t) σ H Q := fun σ H Q h' => by
  obtain ⟨F, G, m, env, b, m', rm, re, e, q⟩ := h'
  unfold fOr at e
  split at e
  · rename_i m1 e1
    cases e
    exact ⟨F, G, m, env, _, _, rm, re, e1, fun F1 H1 G1 go1 rm1 => iteT (q F1 H1 G1 go1 rm1)⟩
  · rename_i m1 e1
    refine ⟨F, G, m, env, _, _, rm, re, e1, fun F1 H1 G1 go1 rm1 => ?_⟩
    exact iteF ⟨F1, G1, m1, env, b, m', rm1, re.go go1, e, fun F2 H2 G2 go2 rm2 => q F2 H2 G2 (go1.trans go2) rm2⟩
  · cases e
theorem imp_not : ∀ σ H Q, tT K mg (fNot s) σ H Q → tNot (tT K mg s) σ H Q := fun σ H Q h' => by
  obtain ⟨F, G, m, env, b, m', rm, re, e, q⟩ := h'
  unfold fNot at e
  split at e
  · rename_i b1 m1 e1
    cases e
    exact ⟨F, G, m, env, _, _, rm, re, e1, fun F1 H1 G1 go1 rm1 => q F1 H1 G1 go1 rm1⟩
  · cases e
theorem imp_if : ∀ σ H Q, eT K mg (fIf s fa fb) σ H Q → tIf (tT K mg s) (eT K mg fa) (eT K mg fb) σ H Q := fun σ H Q h' => by
  obtain ⟨F, G, m, env, b, m', rm, re, e, q⟩ := h'
  unfold fIf at e
  split at e
  · rename_i m1 e1
    refine ⟨F, G, m, env, _, _, rm, re, e1, fun F1 H1 G1 go1 rm1 => ?_⟩
    exact iteT ⟨F1, G1, m1, env, b, m', rm1, re.go go1, e, fun v F2 H2 G2 go2 rm2 => q v F2 H2 G2 (go1.trans go2) rm2⟩
  · rename_i m1 e1
    refine ⟨F, G, m, env, _, _, rm, re, e1, fun F1 H1 G1 go1 rm1 => ?_⟩
    exact iteF ⟨F1, G1, m1, env, b, m', rm1, re.go go1, e, fun v F2 H2 G2 go2 rm2 => q v F2 H2 G2 (go1.trans go2) rm2⟩
  · cases e
end
variable {rest : List Expr} {sa sb : FT}
theorem sw_and1 (h : ST X a sa) : SW X (.BoolOp .And [a] pos) sa := pw_and1 h
theorem sw_or1 (h : ST X a sa) : SW X (.BoolOp .Or [a] pos) sa := pw_or1 h
theorem sw_and (h : ST X a sa) (hb : SW X (.BoolOp .And (b :: rest) pos) sb) : SW X (.BoolOp .And (a :: b :: rest) pos) (fAnd sa sb) := sw_of (pw_and h hb) imp_and
theorem sw_or (h : ST X a sa) (hb : SW X (.BoolOp .Or (b :: rest) pos) sb) : SW X (.BoolOp .Or (a :: b :: rest) pos) (fOr sa sb) := sw_of (pw_or h hb) imp_or
theorem st_w {e : Expr} (h : SW X e sa) : ST X e sa := h.pt
theorem st_not (h : ST X a sa) : ST X (.UnaryOp .Not a pos) (fNot sa) := st_of (pt_not h) imp_not
theorem se_if {c : Expr} (h : ST X c sa) (ha : SE X a fa) (hb : SE X b fb) : SE X (.IfExp c a b pos) (fIf sa fa fb) := se_of (pe_ifExp h ha hb) imp_if
end
end Sm


set_option Elab.async false
set_option linter.all false
set_option maxRecDepth 100000
set_option maxHeartbeats 2000000
/-! Sem2: operators, displays, subscripts, calls of built-ins, over plain data. -/
namespace Sm
open PySem PySem.Spec PyProof.Rows L2

/-! ### lists as they stand -/
/-- the items of a list (one that may change, too) -/
def seqL (m : Mem) : D → Option (List D)
  | .lst ds => some ds
  | .loc n => (match m[n]? with
    | some (.lst ds) => some ds
    | some (.frz (.lst ds)) => some ds
    | _ => none)
  | _ => none
/-- .. to be read: of the script, too -/
def seqR (m : Mem) : D → Option (List D)
  | .scr ds => some ds
  | d => seqL m d
/-- what will not change any more -/
def frz1 : D → Mem → R (D × Mem)
  | .loc n, m => (match m[n]? with
    | some (.lst ds) => .ok (.lst ds, m.set n (.frz (.lst ds)))
    | some (.frz d) => .ok (d, m)
    | _ => .bad)
  | d, m => .ok (d, m)
def frzs : List D → Mem → R (List D × Mem)
  | [], m => .ok ([], m)
  | d :: ds, m => (match frz1 d m with
    | .ok (d', m1) => (match frzs ds m1 with
      | .ok (ds', m2) => .ok (d' :: ds', m2)
      | .bad => .bad)
    | .bad => .bad)
def mkL (c : Bool) (ds : List D) (m : Mem) : D × Mem := if c then (.loc m.length, m ++ [.lst ds]) else (.lst ds, m)

section
variable {K : PySem.W.Frag} {mg : Str → Option Value} {F H : Hp} {G : List Addr} {m : Mem}
theorem seqL_at {v : V} {d : D} {ds : List D} (rm : Rm K mg F H G m) (r : Rp K mg F G v d) (h : seqL m d = some ds) : ∃ a xs, v = .ref a ∧ H a = some (.lst xs) ∧ Rps K mg F G xs ds := by
  cases r with
  | lst e q =>
    cases h
    exact ⟨_, _, rfl, rm.sub _ _ e, q⟩
  | @loc a n e =>
    simp only [seqL] at h
    split at h
    · rename_i ds' hm
      cases h
      cases rm.cell n a _ e hm with
      | lst e1 e2 e3 => exact ⟨a, _, rfl, e1, e3⟩
    · rename_i ds' hm
      cases h
      cases rm.cell n a _ e hm with
      | frz e1 e2 =>
        cases e1 with
        | lst e3 e4 => exact ⟨a, _, rfl, rm.sub _ _ e3, e4⟩
    · cases h
  | _ => cases h
theorem seqR_at {v : V} {d : D} {ds : List D} (rm : Rm K mg F H G m) (r : Rp K mg F G v d) (h : seqR m d = some ds) : ∃ a xs, v = .ref a ∧ SqL K H a xs ∧ Rps K mg F G xs ds := by
  have go : ∀ {d' : D}, Rp K mg F G v d' → seqL m d' = some ds → ∃ a xs, v = .ref a ∧ SqL K H a xs ∧ Rps K mg F G xs ds := fun r' h' => by
    obtain ⟨a, xs, e, e1, q⟩ := seqL_at rm r' h'
    exact ⟨a, xs, e, SqL.of e1, q⟩
  cases r with
  | scr e q =>
    cases h
    exact ⟨_, _, rfl, ex_l rm.sub e, q⟩
  | lst e q => exact go (.lst e q) h
  | loc e => exact go (.loc e) h
  | _ => cases h
theorem frz1_ok {v : V} {d d' : D} {m' : Mem} (rm : Rm K mg F H G m) (r : Rp K mg F G v d) (h : frz1 d m = .ok (d', m')) : ∃ F', Rm K mg F' H G m' ∧ Go F H G F' H G ∧ Rp K mg F' G v d' := by
  cases r with
  | @loc a n e =>
    simp only [frz1] at h
    split at h
    · rename_i ds hm
      cases h
      exact rm.freeze e hm
    · rename_i u hm
      cases h
      cases rm.cell n a _ e hm with
      | frz e1 e2 => exact ⟨F, rm, .refl, e1⟩
    · cases h
  | non => cases h; exact ⟨F, rm, .refl, .non⟩
  | bl => cases h; exact ⟨F, rm, .refl, .bl _⟩
  | int => cases h; exact ⟨F, rm, .refl, .int _⟩
  | str => cases h; exact ⟨F, rm, .refl, .str _⟩
  | tup e q => cases h; exact ⟨F, rm, .refl, .tup e q⟩
  | lst e q => cases h; exact ⟨F, rm, .refl, .lst e q⟩
  | scr e q => cases h; exact ⟨F, rm, .refl, .scr e q⟩
  | obj c e q => cases h; exact ⟨F, rm, .refl, .obj c e q⟩
theorem frzs_ok : ∀ {ds ds' : List D} {vs : List V} {F : Hp} {m m' : Mem}, Rm K mg F H G m → Rps K mg F G vs ds → frzs ds m = .ok (ds', m') → ∃ F', Rm K mg F' H G m' ∧ Go F H G F' H G ∧ Rps K mg F' G vs ds'
  | [], _, _, F, _, _, rm, r, h => by
    cases r
    cases h
    exact ⟨F, rm, .refl, .nil⟩
  | d :: ds, ds', _, F, m, m', rm, r, h => by
    cases r with
    | cons r1 r2 =>
      simp only [frzs] at h
      split at h
      · rename_i d1 m1 e1
        split at h
        · rename_i ds1 m2 e2
          cases h
          obtain ⟨F1, rm1, go1, q1⟩ := frz1_ok rm r1 e1
          obtain ⟨F2, rm2, go2, q2⟩ := frzs_ok rm1 (r2.go go1) e2
          exact ⟨F2, rm2, go1.trans go2, .cons (q1.go go2) q2⟩
        · cases h
      · cases h
theorem fresh_tup {xs : List V} {ds : List D} {Q : VK} (rm : Rm K mg F H G m) (r : Rps K mg F G xs ds) (q : ∀ v F' H' G', Go F H G F' H' G' → Rm K mg F' H' G' m → Rp K mg F' G' v (.tup ds) → Q v H') :
    ∀ p, H p = none → Q (.ref p) (upd H p (.tup xs)) := fun p hp => by
  obtain ⟨rm', go⟩ := rm.lay (o := .tup xs) hp
  exact q _ _ _ _ go rm' (.tup (SqT.of upd_same) (r.go go))
theorem fresh_lst {c : Bool} {xs : List V} {ds : List D} {Q : VK} (rm : Rm K mg F H G m) (r : Rps K mg F G xs ds) (q : ∀ v F' H' G', Go F H G F' H' G' → Rm K mg F' H' G' (mkL c ds m).2 → Rp K mg F' G' v (mkL c ds m).1 → Q v H') :
    ∀ p, H p = none → Q (.ref p) (upd H p (.lst xs)) := fun p hp => by
  cases c with
  | false =>
    obtain ⟨rm', go⟩ := rm.lay (o := .lst xs) hp
    exact q _ _ _ _ go rm' (.lst upd_same (r.go go))
  | true =>
    obtain ⟨rm', go⟩ := rm.layL hp r
    refine q _ _ _ _ go rm' (.loc ?_)
    rw [List.getElem?_append_right (by rw [rm.len]; exact Nat.le_refl _), rm.len, Nat.sub_self]
    rfl
end

/-! ### operators -/
def gAdd (c : Bool) : D → D → Mem → R (D × Mem)
  | .int i, .int j, m => .ok (.int (i + j), m)
  | .str a, .str b, m => if a.length + b.length ≤ sizeLine then .ok (.str (a ++ b), m) else .bad
  | .tup xs, .tup ys, m => if xs ≠ [] ∧ ys ≠ [] ∧ xs.length + ys.length ≤ sizeLine then .ok (.tup (xs ++ ys), m) else .bad
  | x, y, m => (match seqL m x, seqL m y with
    | some xs, some ys => if xs.length + ys.length ≤ sizeLine then .ok (mkL c (xs ++ ys) m) else .bad
    | _, _ => .bad)
def rAddA (K : PySem.W.Frag) : R2 := fun x y H Q => ((rI0 (fun i j => .int (i + j)) x y H Q ∨ ∃ i j, x = .str i ∧ y = .str j ∧ i.length + j.length ≤ sizeLine ∧ Q (.str (i ++ j)) H) ∨ rCat x y H Q) ∨ rCatT K x y H Q
theorem or_add {X : Cx} : OpR X (binaryOp .Add) (rAddA X.K) := ((op_add.or op_add_str).or op_cat).or op_catT
theorem Rps.ne_nil {K : PySem.W.Frag} {mg : Str → Option Value} {F : Hp} {G : List Addr} {xs : List V} {ds : List D} (r : Rps K mg F G xs ds) (h : ds ≠ []) : xs ≠ [] := fun e => by
  subst e
  cases r
  exact h rfl
theorem op2_add {K : PySem.W.Frag} {mg : Str → Option Value} {c : Bool} : Op2 K mg (rAddA K) (gAdd c) := by
  intro F H G m x y dx dy d m' rm rx ry e Q q
  have other : ∀ {xs ys : List D}, seqL m dx = some xs → seqL m dy = some ys → xs.length + ys.length ≤ sizeLine → (mkL c (xs ++ ys) m) = (d, m') → rAddA K x y H Q := fun {xs ys} h1 h2 hl e => by
    obtain ⟨a, vs, rfl, ha, ra⟩ := seqL_at rm rx h1
    obtain ⟨b, ws, rfl, hb, rb⟩ := seqL_at rm ry h2
    refine .inl (.inr ⟨a, b, vs, ws, rfl, rfl, ha, hb, by rw [ra.length, rb.length]; exact hl, fresh_lst (c := c) rm (ra.append rb) fun v F' H' G' go rm' r' => ?_⟩)
    rw [e] at rm' r'
    exact q v F' H' G' go rm' r'
  unfold gAdd at e
  split at e
  · cases rx; cases ry; cases e
    exact .inl (.inl (.inl ⟨_, _, rfl, rfl, q _ F H G .refl rm (.int _)⟩))
  · cases rx; cases ry
    split at e
    · cases e
      rename_i hl
      exact .inl (.inl (.inr ⟨_, _, rfl, rfl, hl, q _ F H G .refl rm (.str _)⟩))
    · cases e
  · split at e
    · rename_i hl
      cases e
      cases rx with
      | tup e1 r1 =>
        cases ry with
        | tup e2 r2 =>
          exact .inr ⟨_, _, _, _, rfl, rfl, ex_t rm.sub e1, ex_t rm.sub e2, r1.ne_nil hl.1, by rw [r1.length, r2.length]; exact hl.2.2, fun z => absurd z (r2.ne_nil hl.2.1), fun _ => fresh_tup rm (r1.append r2) q⟩
    · cases e
  · split at e
    · rename_i xs ys h1 h2
      split at e
      · rename_i hl
        exact other h1 h2 hl (R.ok.inj e)
      · cases e
    · cases e
def gSub : D → D → Mem → R (D × Mem)
  | .int i, .int j, m => .ok (.int (i - j), m)
  | _, _, _ => .bad
theorem op2_sub {K : PySem.W.Frag} {mg : Str → Option Value} : Op2 K mg (rI0 fun i j => .int (i - j)) gSub := by
  intro F H G m x y dx dy d m' rm rx ry e Q q
  unfold gSub at e
  split at e
  · cases rx; cases ry; cases e
    exact ⟨_, _, rfl, rfl, q _ F H G .refl rm (.int _)⟩
  · cases e
/-- how large a product's parts may be -/
def mulFits (i j : Int) : Bool := decide (i.natAbs.log2 + j.natAbs.log2 < 1000000)
def gMul (c : Bool) : D → D → Mem → R (D × Mem)
  | .int i, .int j, m => if mulFits i j then .ok (.int (i * j), m) else .bad
  | x, .int k, m => (match seqL m x with
    | some xs => if -(2 ^ 62) ≤ k ∧ k < 2 ^ 62 ∧ xs.length * k.toNat ≤ sizeLine then .ok (mkL c (List.replicate k.toNat xs).flatten m) else .bad
    | none => .bad)
  | _, _, _ => .bad
def rMulA : R2 := fun x y H Q => rI CMulW (fun i j => .int (i * j)) x y H Q ∨ rRep x y H Q
theorem or_mul {X : Cx} : OpR X (binaryOp .Mult) rMulA := op_mulW.or op_rep
theorem Rps.rep {K : PySem.W.Frag} {mg : Str → Option Value} {F : Hp} {G : List Addr} {xs : List V} {ds : List D} (r : Rps K mg F G xs ds) : ∀ k : Nat, Rps K mg F G (List.replicate k xs).flatten (List.replicate k ds).flatten
  | 0 => .nil
  | k + 1 => by
    rw [List.replicate_succ, List.replicate_succ, List.flatten_cons, List.flatten_cons]
    exact r.append (r.rep k)
theorem op2_mul {K : PySem.W.Frag} {mg : Str → Option Value} {c : Bool} : Op2 K mg rMulA (gMul c) := by
  intro F H G m x y dx dy d m' rm rx ry e Q q
  unfold gMul at e
  split at e
  · cases rx; cases ry
    split at e
    · rename_i h
      cases e
      exact .inl ⟨_, _, rfl, rfl, by unfold CMulW; unfold mulFits at h; exact of_decide_eq_true h, q _ F H G .refl rm (.int _)⟩
    · cases e
  · cases ry
    split at e
    · rename_i xs hx
      split at e
      · rename_i hk
        obtain ⟨a, vs, rfl, ha, ra⟩ := seqL_at rm rx hx
        refine .inr ⟨a, _, vs, rfl, rfl, ha, by omega, by omega, by rw [ra.length]; exact hk.2.2, fresh_lst (c := c) rm (ra.rep _) fun v F' H' G' go rm' r' => ?_⟩
        have e2 := R.ok.inj e
        rw [e2] at rm' r'
        exact q v F' H' G' go rm' r'
      · cases e
    · cases e
  · cases e
def divFits (j : Int) : Bool := decide (0 < j) && decide (j.natAbs.log2 < 9000)
def gDiv : D → D → Mem → R (D × Mem)
  | .int i, .int j, m => if divFits j then .ok (.int (i / j), m) else .bad
  | _, _, _ => .bad
theorem op2_div {K : PySem.W.Frag} {mg : Str → Option Value} : Op2 K mg (rI CDivW fun i j => .int (i / j)) gDiv := by
  intro F H G m x y dx dy d m' rm rx ry e Q q
  unfold gDiv at e
  split at e
  · cases rx; cases ry
    split at e
    · rename_i h
      cases e
      unfold divFits at h
      simp only [Bool.and_eq_true, decide_eq_true_eq] at h
      exact ⟨_, _, rfl, rfl, h, q _ F H G .refl rm (.int _)⟩
    · cases e
  · cases e
def gMod : D → D → Mem → R (D × Mem)
  | .int i, .int j, m => if 0 < j then .ok (.int (i % j), m) else .bad
  | _, _, _ => .bad
theorem op2_mod {K : PySem.W.Frag} {mg : Str → Option Value} : Op2 K mg (rI (fun _ j => 0 < j) fun i j => .int (i % j)) gMod := by
  intro F H G m x y dx dy d m' rm rx ry e Q q
  unfold gMod at e
  split at e
  · cases rx; cases ry
    split at e
    · rename_i h
      cases e
      exact ⟨_, _, rfl, rfl, h, q _ F H G .refl rm (.int _)⟩
    · cases e
  · cases e
def gPow : D → D → Mem → R (D × Mem)
  | .int i, .int j, m => if 0 ≤ j ∧ j ≤ 1000000 ∧ i.natAbs < 2 ^ 64 then .ok (.int (i ^ j.toNat), m) else .bad
  | _, _, _ => .bad
theorem op2_pow {K : PySem.W.Frag} {mg : Str → Option Value} : Op2 K mg (rI CPow fun i j => .int (i ^ j.toNat)) gPow := by
  intro F H G m x y dx dy d m' rm rx ry e Q q
  unfold gPow at e
  split at e
  · cases rx; cases ry
    split at e
    · rename_i h
      cases e
      exact ⟨_, _, rfl, rfl, h, q _ F H G .refl rm (.int _)⟩
    · cases e
  · cases e
def gNeg : D → Mem → R (D × Mem)
  | .int i, m => .ok (.int (-i), m)
  | _, _ => .bad
theorem op1_neg {K : PySem.W.Frag} {mg : Str → Option Value} : Op1 K mg (rU fun i => .int (-i)) gNeg := by
  intro F H G m x dx d m' rm rx e Q q
  unfold gNeg at e
  split at e
  · cases rx; cases e
    exact ⟨_, rfl, q _ F H G .refl rm (.int _)⟩
  · cases e
/-- a comparison of two whole numbers -/
def gCmp (p : Int → Int → Bool) : D → D → Mem → R (D × Mem)
  | .int i, .int j, m => .ok (.bl (p i j), m)
  | _, _, _ => .bad
theorem op2_cmp {K : PySem.W.Frag} {mg : Str → Option Value} (p : Int → Int → Bool) : Op2 K mg (rI0 fun i j => .bl (p i j)) (gCmp p) := by
  intro F H G m x y dx dy d m' rm rx ry e Q q
  unfold gCmp at e
  split at e
  · cases rx; cases ry; cases e
    exact ⟨_, _, rfl, rfl, q _ F H G .refl rm (.bl _)⟩
  · cases e
/-! == and != -/
mutual
def pyD (m : Mem) : D → Option PyData
  | .non => some .none
  | .bl b => some (.bool b)
  | .int i => some (.int i)
  | .str s => some (.str s)
  | .tup ds => (pyDs m ds).map .tuple
  | .lst ds => (pyDs m ds).map .list
  | .scr ds => (pyDs m ds).map .list
  | .obj _ _ => none
  | .loc _ => none
def pyDs (m : Mem) : List D → Option (List PyData)
  | [] => some []
  | d :: ds => (match pyD m d, pyDs m ds with
    | some p, some ps => some (p :: ps)
    | _, _ => none)
end
/-- at the top: a list that may change, too -/
def pyT (m : Mem) : D → Option PyData
  | .loc n => (match seqL m (.loc n) with
    | some ds => (pyDs m ds).map .list
    | none => none)
  | d => pyD m d
mutual
theorem pyD_dp {K : PySem.W.Frag} {mg : Str → Option Value} {F H : Hp} {G : List Addr} {m : Mem} (rm : Rm K mg F H G m) : ∀ (d : D) (v : V) (p : PyData), Rp K mg F G v d → pyD m d = some p → Dp K H v p
  | .non, _, _, r, h => by cases r; cases h; exact .non
  | .bl _, _, _, r, h => by cases r; cases h; exact .bl _
  | .int _, _, _, r, h => by cases r; cases h; exact .int _
  | .str _, _, _, r, h => by cases r; cases h; exact .str _
  | .tup ds, _, _, r, h => by
    cases r with
    | tup e q =>
      unfold pyD at h
      obtain ⟨ps, hp, e2⟩ := Option.map_eq_some_iff.mp h
      cases e2
      exact .tup (ex_t rm.sub e) (pyDs_dp rm ds _ ps q hp)
  | .lst ds, _, _, r, h => by
    cases r with
    | lst e q =>
      unfold pyD at h
      obtain ⟨ps, hp, e2⟩ := Option.map_eq_some_iff.mp h
      cases e2
      exact .lst (SqL.of (rm.sub _ _ e)) (pyDs_dp rm ds _ ps q hp)
  | .scr ds, _, _, r, h => by
    cases r with
    | scr e q =>
      unfold pyD at h
      obtain ⟨ps, hp, e2⟩ := Option.map_eq_some_iff.mp h
      cases e2
      exact .lst (ex_l rm.sub e) (pyDs_dp rm ds _ ps q hp)
  | .obj _ _, _, _, _, h => by unfold pyD at h; cases h
  | .loc _, _, _, _, h => by unfold pyD at h; cases h
theorem pyDs_dp {K : PySem.W.Frag} {mg : Str → Option Value} {F H : Hp} {G : List Addr} {m : Mem} (rm : Rm K mg F H G m) : ∀ (ds : List D) (vs : List V) (ps : List PyData), Rps K mg F G vs ds → pyDs m ds = some ps → DpAll K H vs ps
  | [], _, _, r, h => by cases r; unfold pyDs at h; cases h; exact .nil
  | d :: ds, _, _, r, h => by
    cases r with
    | cons r1 r2 =>
      unfold pyDs at h
      split at h
      · rename_i p ps h1 h2
        cases h
        exact .cons (pyD_dp rm d _ p r1 h1) (pyDs_dp rm ds _ ps r2 h2)
      · cases h
end
theorem pyT_dp {K : PySem.W.Frag} {mg : Str → Option Value} {F H : Hp} {G : List Addr} {m : Mem} (rm : Rm K mg F H G m) {d : D} {v : V} {p : PyData} (r : Rp K mg F G v d) (h : pyT m d = some p) : Dp K H v p := by
  cases r with
  | @loc a n e =>
    simp only [pyT] at h
    split at h
    · rename_i ds hs
      obtain ⟨ps, hp, e2⟩ := Option.map_eq_some_iff.mp h
      cases e2
      obtain ⟨a', xs, e1, e2, q⟩ := seqL_at rm (.loc e) hs
      cases e1
      exact .lst (SqL.of e2) (pyDs_dp rm ds _ ps q hp)
    · cases h
  | non => exact pyD_dp rm _ _ _ .non h
  | bl b => exact pyD_dp rm _ _ _ (.bl b) h
  | int i => exact pyD_dp rm _ _ _ (.int i) h
  | str s => exact pyD_dp rm _ _ _ (.str s) h
  | tup e q => exact pyD_dp rm _ _ _ (.tup e q) h
  | lst e q => exact pyD_dp rm _ _ _ (.lst e q) h
  | scr e q => exact pyD_dp rm _ _ _ (.scr e q) h
  | obj c e q => exact pyD_dp rm _ _ _ (.obj c e q) h
/-- two scalars that == tells apart as data does -/
def eqS : D → D → Option Bool
  | .int i, .int j => some (decide (i = j))
  | .str i, .str j => some (decide (i = j))
  | .bl i, .bl j => some (decide (i = j))
  | .int _, .str _ => some false
  | .str _, .int _ => some false
  | .bl _, .str _ => some false
  | .str _, .bl _ => some false
  | .non, .non => some true
  | .non, .int _ => some false
  | .int _, .non => some false
  | .non, .bl _ => some false
  | .bl _, .non => some false
  | .non, .str _ => some false
  | .str _, .non => some false
  | _, _ => none
def gEq (neg : Bool) (x y : D) (m : Mem) : R (D × Mem) :=
  match eqS x y with
  | some b => .ok (.bl (if neg then !b else b), m)
  | none => (match pyT m x, pyT m y with
    | some p, some q => if SeqAt.shaped p && SeqAt.shaped q then .ok (.bl (if neg then !PyData.eqv p q else PyData.eqv p q), m) else .bad
    | _, _ => .bad)
def rEqA (K : PySem.W.Frag) : R2 := fun x y H Q => rEq x y H Q ∨ rEqD K x y H Q
def rNeA (K : PySem.W.Frag) : R2 := fun x y H Q => rNe x y H Q ∨ rNeD K x y H Q
theorem or_eq {X : Cx} (hu : X.A.units + 64 < cLine) : OpR X (compareOp .Eq) (rEqA X.K) := op_eq.or (op_eqD hu)
theorem or_ne {X : Cx} (hu : X.A.units + 64 < cLine) : OpR X (compareOp .NotEq) (rNeA X.K) := op_ne.or (op_neD hu)
theorem eqS_ok {K : PySem.W.Frag} {mg : Str → Option Value} {F : Hp} {G : List Addr} {x y : V} {dx dy : D} {b : Bool} (rx : Rp K mg F G x dx) (ry : Rp K mg F G y dy) (h : eqS dx dy = some b) : scal x y = true ∧ decide (x = y) = b := by
  unfold eqS at h
  split at h <;> cases rx <;> cases ry <;> cases h <;> refine ⟨rfl, ?_⟩ <;> simp
theorem op2_eq {K : PySem.W.Frag} {mg : Str → Option Value} : Op2 K mg (rEqA K) (gEq false) := by
  intro F H G m x y dx dy d m' rm rx ry e Q q
  unfold gEq at e
  split at e
  · rename_i b hb
    cases e
    obtain ⟨h1, h2⟩ := eqS_ok rx ry hb
    refine .inl ⟨h1, ?_⟩
    rw [h2]
    exact q _ F H G .refl rm (.bl _)
  · split at e
    · rename_i p p' h1 h2
      split at e
      · rename_i hs
        rw [Bool.and_eq_true] at hs
        cases e
        exact .inr ⟨p, p', pyT_dp rm rx h1, pyT_dp rm ry h2, hs.1, hs.2, q _ F H G .refl rm (.bl _)⟩
      · cases e
    · cases e
theorem op2_ne {K : PySem.W.Frag} {mg : Str → Option Value} : Op2 K mg (rNeA K) (gEq true) := by
  intro F H G m x y dx dy d m' rm rx ry e Q q
  unfold gEq at e
  split at e
  · rename_i b hb
    cases e
    obtain ⟨h1, h2⟩ := eqS_ok rx ry hb
    refine .inl ⟨h1, ?_⟩
    rw [h2]
    exact q _ F H G .refl rm (.bl _)
  · split at e
    · rename_i p p' h1 h2
      split at e
      · rename_i hs
        rw [Bool.and_eq_true] at hs
        cases e
        exact .inr ⟨p, p', pyT_dp rm rx h1, pyT_dp rm ry h2, hs.1, hs.2, q _ F H G .refl rm (.bl _)⟩
      · cases e
    · cases e
/-- x is None, x is True .. -/
def isNon : D → Bool
  | .non => true
  | _ => false
def gIsN (neg : Bool) : D → D → Mem → R (D × Mem)
  | x, .non, m => .ok (.bl (if neg then !isNon x else isNon x), m)
  | _, _, _ => .bad
theorem isNon_ok {K : PySem.W.Frag} {mg : Str → Option Value} {F : Hp} {G : List Addr} {x : V} {dx : D} (rx : Rp K mg F G x dx) : decide (x = .non) = isNon dx := by
  cases rx <;> simp [isNon]
theorem op2_isN {K : PySem.W.Frag} {mg : Str → Option Value} : Op2 K mg (fun x y H Q => y = .non ∧ Q (.bl (decide (x = .non))) H) (gIsN false) := by
  intro F H G m x y dx dy d m' rm rx ry e Q q
  unfold gIsN at e
  split at e
  · cases ry; cases e
    refine ⟨rfl, ?_⟩
    rw [isNon_ok rx]
    exact q _ F H G .refl rm (.bl _)
  · cases e
theorem op2_notN {K : PySem.W.Frag} {mg : Str → Option Value} : Op2 K mg (fun x y H Q => y = .non ∧ Q (.bl (!decide (x = .non))) H) (gIsN true) := by
  intro F H G m x y dx dy d m' rm rx ry e Q q
  unfold gIsN at e
  split at e
  · cases ry; cases e
    refine ⟨rfl, ?_⟩
    rw [isNon_ok rx]
    exact q _ F H G .refl rm (.bl _)
  · cases e

/-! ### argument lists, displays -/
def fNil : FA := fun _ m => .ok ([], m)
def fCons (fa : FE) (fr : FA) : FA := fun env m => match fa env m with
  | .ok (d, m1) => (match fr env m1 with
    | .ok (ds, m2) => .ok (d :: ds, m2)
    | .bad => .bad)
  | .bad => .bad
section
variable {X : Cx} {e a b : Expr} {es : List Expr} {fe fa fb : FE} {fr : FA} {pos : Pos}
theorem sa_nil : SA X [] fNil := sa_of pa_nil fun σ H Q h => by
  obtain ⟨F, G, m, env, ds, m', rm, re, e, q⟩ := h
  cases e
  exact q [] F H G .refl rm .nil
theorem sa_cons (ha : SE X e fe) (hr : SA X es fr) (hs : starEach (e :: es) X.env = (false, eval e X.env) :: starEach es X.env := by rfl) : SA X (e :: es) (fCons fe fr) := sa_of (pa_cons ha hr hs) fun σ H Q h => by
  obtain ⟨F, G, m, env, ds, m', rm, re, e, q⟩ := h
  unfold fCons at e
  split at e
  · rename_i d m1 e1
    split at e
    · rename_i ds' m2 e2
      cases e
      exact ⟨F, G, m, env, d, m1, rm, re, e1, fun v F1 H1 G1 go1 rm1 rp1 => ⟨F1, G1, m1, env, ds', m', rm1, re.go go1, e2, fun vs F2 H2 G2 go2 rm2 rp2 => q _ F2 H2 G2 (go1.trans go2) rm2 (.cons (rp1.go go2) rp2)⟩⟩
    · cases e
  · cases e
def fTup (fr : FA) : FE := fun env m => match fr env m with
  | .ok (ds, m1) => (match frzs ds m1 with
    | .ok (ds', m2) => if ds'.length ≤ sizeLine then .ok (.tup ds', m2) else .bad
    | .bad => .bad)
  | .bad => .bad
theorem Go.to {F H F' : Hp} {G : List Addr} (g : Go F H G F' H G) : Go F H G F' H G := g
theorem se_tup {n : Nat} (h : SA X es fr) : SE X (.Tuple es n pos) (fTup fr) := se_of (pe_tup h) fun σ H Q h => by
  obtain ⟨F, G, m, env, d, m', rm, re, e, q⟩ := h
  unfold fTup at e
  split at e
  · rename_i ds m1 e1
    split at e
    · rename_i ds' m2 e2
      split at e
      · rename_i hl
        cases e
        refine ⟨F, G, m, env, ds, m1, rm, re, e1, fun vs F1 H1 G1 go1 rm1 rp1 => ?_⟩
        obtain ⟨F2, rm2, go2, rp2⟩ := frzs_ok rm1 rp1 e2
        exact ⟨by rw [rp2.length]; exact hl, fresh_tup rm2 rp2 fun v F' H' G' go rm' r => q v F' H' G' ((go1.trans go2).trans go) rm' r⟩
      · cases e
    · cases e
  · cases e
/-- c: a list that may change (its items as they are) -/
def fLst (c : Bool) (fr : FA) : FE := fun env m => match fr env m with
  | .ok (ds, m1) => (match (if c then .ok (ds, m1) else frzs ds m1) with
    | .ok (ds', m2) => if ds'.length ≤ sizeLine then .ok (mkL c ds' m2) else .bad
    | .bad => .bad)
  | .bad => .bad
theorem se_lst (c : Bool) (h : SA X es fr) : SE X (.List es pos) (fLst c fr) := se_of (pe_lst h) fun σ H Q h => by
  obtain ⟨F, G, m, env, d, m', rm, re, e, q⟩ := h
  unfold fLst at e
  split at e
  · rename_i ds m1 e1
    split at e
    · rename_i ds' m2 e2
      split at e
      · rename_i hl
        have e3 := R.ok.inj e
        refine ⟨F, G, m, env, ds, m1, rm, re, e1, fun vs F1 H1 G1 go1 rm1 rp1 => ?_⟩
        have st : ∃ F2, Rm X.K X.mg F2 H1 G1 m2 ∧ Go F1 H1 G1 F2 H1 G1 ∧ Rps X.K X.mg F2 G1 vs ds' := by
          cases c with
          | true => cases e2; exact ⟨F1, rm1, .refl, rp1⟩
          | false => exact frzs_ok rm1 rp1 e2
        obtain ⟨F2, rm2, go2, rp2⟩ := st
        refine ⟨by rw [rp2.length]; exact hl, fresh_lst (c := c) rm2 rp2 fun v F' H' G' go rm' r => ?_⟩
        rw [e3] at rm' r
        exact q v F' H' G' ((go1.trans go2).trans go) rm' r
      · cases e
    · cases e
  · cases e

/-! ### subscripts -/
def gIx (x i : D) (m : Mem) : R (D × Mem) := match i with
  | .int i => (match x with
    | .tup ds => (match atI ds i with
      | some d => .ok (d, m)
      | none => .bad)
    | .str z => if z.length ≤ sizeLine then (match atI z.cps.toList i with
      | some c => .ok (.str ⟨#[c]⟩, m)
      | none => .bad) else .bad
    | x => (match seqR m x with
      | some ds => (match atI ds i with
        | some d => .ok (d, m)
        | none => .bad)
      | none => .bad))
  | _ => .bad
theorem Rps.atI {K : PySem.W.Frag} {mg : Str → Option Value} {F : Hp} {G : List Addr} {xs : List V} {ds : List D} {i : Int} {d : D} (r : Rps K mg F G xs ds) (h : atI ds i = some d) : ∃ v, L2.atI xs i = some v ∧ Rp K mg F G v d := by
  unfold L2.atI at h ⊢
  rw [r.length]
  cases e : ixN ds.length i with
  | none => rw [e] at h; cases h
  | some j =>
    rw [e] at h
    exact r.get h
theorem op2_ix {K : PySem.W.Frag} {mg : Str → Option Value} : Op2 K mg (rIx K) gIx := by
  intro F H G m x y dx dy d m' rm rx ry e Q q
  unfold gIx at e
  split at e
  · rename_i i
    cases ry
    split at e
    · cases rx with
      | tup e1 r1 =>
        split at e
        · rename_i dd hd
          cases e
          obtain ⟨v, hv, rv⟩ := r1.atI hd
          exact .inr (.inl ⟨_, _, _, v, rfl, rfl, ex_t rm.sub e1, hv, q v F H G .refl rm rv⟩)
        · cases e
    · cases rx
      split at e
      · rename_i hz
        split at e
        · rename_i c hc
          cases e
          exact .inr (.inr ⟨_, _, c, rfl, rfl, hz, hc, q _ F H G .refl rm (.str _)⟩)
        · cases e
      · cases e
    · split at e
      · rename_i ds hds
        split at e
        · rename_i dd hd
          cases e
          obtain ⟨a, xs, rfl, hs, r1⟩ := seqR_at rm rx hds
          obtain ⟨v, hv, rv⟩ := r1.atI hd
          exact .inl ⟨_, _, _, v, rfl, rfl, hs, hv, q v F H G .refl rm rv⟩
        · cases e
      · cases e
  · cases e
theorem se_ix (ha : SE X a fa) (hb : SE X b fb) (hs : PlainIx b := by first | exact fun _ _ => rfl | rfl) : SE X (.Subscript a b pos) (fBin gIx fa fb) :=
  se_of (pe_ix ix_seq ha hb hs) (imp_op op2_ix)
/-- a part of a slice -/
def FO := Env → Mem → R (Option Int × Mem)
def oT (K : PySem.W.Frag) (mg : Str → Option Value) (f : FO) : TO := fun σ H Q => ∃ F G m env d m', Rm K mg F H G m ∧ Re K mg F G σ env ∧ f env m = .ok (d, m') ∧ ∀ F' H' G', Go F H G F' H' G' → Rm K mg F' H' G' m' → Q d H'
abbrev SO (X : Cx) (e : Option Expr) (f : FO) : Prop := PO X e (oT X.K X.mg f)
def fNoP : FO := fun _ m => .ok (none, m)
def fPart (fa : FE) : FO := fun env m => match fa env m with
  | .ok (.int i, m1) => .ok (some i, m1)
  | _ => .bad
theorem po_imp {X : Cx} {e : Option Expr} {t u : TO} (h : PO X e t) (i : ∀ σ H Q, u σ H Q → t σ H Q) : PO X e u := by
  constructor
  intro pins s σ H Q I q
  exact h.run pins s σ H Q I (i σ H Q q)
theorem so_none : SO X none fNoP := po_imp po_none fun σ H Q h => by
  obtain ⟨F, G, m, env, d, m', rm, re, e, q⟩ := h
  cases e
  exact q F H G .refl rm
theorem so_some (h : SE X a fa) : SO X (some a) (fPart fa) := po_imp (po_some h) fun σ H Q h => by
  obtain ⟨F, G, m, env, d, m', rm, re, e, q⟩ := h
  unfold fPart at e
  split at e
  · rename_i i m1 e1
    cases e
    refine ⟨F, G, m, env, _, _, rm, re, e1, fun v F1 H1 G1 go1 rm1 rp1 => ?_⟩
    cases rp1
    exact ⟨i, rfl, q F1 H1 G1 go1 rm1⟩
  · cases e
def cutD (xs : List D) (lo hi : Option Int) : List D := (xs.drop (HT.sIx xs.length 0 lo)).take (HT.sIx xs.length xs.length hi - HT.sIx xs.length 0 lo)
theorem Rps.cut {K : PySem.W.Frag} {mg : Str → Option Value} {F : Hp} {G : List Addr} {xs : List V} {ds : List D} (r : Rps K mg F G xs ds) (lo hi : Option Int) : Rps K mg F G (cutV xs lo hi) (cutD ds lo hi) := by
  unfold cutV cutD
  rw [r.length]
  exact (r.drop _).take _
def gSl (c : Bool) (x : D) (lo hi : Option Int) (m : Mem) : R (D × Mem) := match x with
  | .tup ds => if HT.sIx ds.length 0 lo = 0 ∧ HT.sIx ds.length ds.length hi = ds.length then .bad else .ok (.tup (cutD ds lo hi), m)
  | .str z => if z.length ≤ sizeLine then .ok (.str (cutS z lo hi), m) else .bad
  | x => (match seqR m x with
    | some ds => .ok (mkL c (cutD ds lo hi) m)
    | none => .bad)
def fSl (c : Bool) (fa : FE) (fl fh : FO) : FE := fun env m => match fa env m with
  | .ok (x, m1) => (match fl env m1 with
    | .ok (lo, m2) => (match fh env m2 with
      | .ok (hi, m3) => gSl c x lo hi m3
      | .bad => .bad)
    | .bad => .bad)
  | .bad => .bad
def rSlA (K : PySem.W.Frag) : V → Option Int → Option Int → Hp → VK → Prop := fun x lo hi H Q => (rSlL K x lo hi H Q ∨ rSlT K x lo hi H Q) ∨ rSlS x lo hi H Q
theorem gSl_ok {K : PySem.W.Frag} {mg : Str → Option Value} {c : Bool} {F H : Hp} {G : List Addr} {m m' : Mem} {x : V} {dx d : D} {lo hi : Option Int} {Q : VK} (rm : Rm K mg F H G m) (rx : Rp K mg F G x dx) (e : gSl c dx lo hi m = .ok (d, m'))
    (q : ∀ v F' H' G', Go F H G F' H' G' → Rm K mg F' H' G' m' → Rp K mg F' G' v d → Q v H') : rSlA K x lo hi H Q := by
  unfold gSl at e
  split at e
  · cases rx with
    | tup e1 r1 =>
      split at e
      · cases e
      · rename_i hn
        cases e
        exact .inl (.inr ⟨_, _, rfl, ex_t rm.sub e1, by rw [r1.length]; exact hn, fresh_tup rm (r1.cut lo hi) q⟩)
  · cases rx
    split at e
    · rename_i hz
      cases e
      exact .inr ⟨_, rfl, hz, q _ F H G .refl rm (.str _)⟩
    · cases e
  · split at e
    · rename_i ds hds
      have e3 := R.ok.inj e
      obtain ⟨a, xs, rfl, hs, r1⟩ := seqR_at rm rx hds
      refine .inl (.inl ⟨_, _, rfl, hs, fresh_lst (c := c) rm (r1.cut lo hi) fun v F' H' G' go rm' r => ?_⟩)
      rw [e3] at rm' r
      exact q v F' H' G' go rm' r
    · cases e
theorem se_sl (c : Bool) {lo hi : Option Expr} {fl fh : FO} {p2 : Pos} (ha : SE X a fa) (hl : SO X lo fl) (hh : SO X hi fh) : SE X (.Subscript a (.Slice lo hi none p2) pos) (fSl c fa fl fh) :=
  se_of (pe_slice (r := rSlA X.K) ((sl_list.or sl_tup).or sl_str) ha hl hh) fun σ H Q h => by
    obtain ⟨F, G, m, env, d, m', rm, re, e, q⟩ := h
    unfold fSl at e
    split at e
    · rename_i x m1 e1
      split at e
      · rename_i l m2 e2
        split at e
        · rename_i u m3 e3
          refine ⟨F, G, m, env, _, _, rm, re, e1, fun v F1 H1 G1 go1 rm1 rp1 => ⟨F1, G1, m1, env, _, _, rm1, re.go go1, e2, fun F2 H2 G2 go2 rm2 => ⟨F2, G2, m2, env, _, _, rm2, (re.go go1).go go2, e3, fun F3 H3 G3 go3 rm3 => ?_⟩⟩⟩
          exact gSl_ok rm3 ((rp1.go go2).go go3) e fun v' F' H' G' go rm' r => q v' F' H' G' (((go1.trans go2).trans go3).trans go) rm' r
        · cases e
      · cases e
    · cases e
/-- xs[::-1] -/
def gRev (c : Bool) (x : D) (m : Mem) : R (D × Mem) := match seqR m x with
  | some ds => .ok (mkL c ds.reverse m)
  | none => .bad

/-! ### calls of built-ins -/
def fBl (g : Fn) (fr : FA) : FE := fun env m => match fr env m with
  | .ok (ds, m1) => g ds m1
  | .bad => .bad
theorem imp_cb {K : PySem.W.Frag} {mg : Str → Option Value} {r : List V → Hp → VK → Prop} {g : Fn} (h : OpN K mg r g) : ∀ σ H Q, eT K mg (fBl g fr) σ H Q → tCB r (aT K mg fr) σ H Q := fun σ H Q h' => by
  obtain ⟨F, G, m, env, d, m', rm, re, e, q⟩ := h'
  unfold fBl at e
  split at e
  · rename_i ds m1 e1
    refine ⟨F, G, m, env, ds, m1, rm, re, e1, fun vs F1 H1 G1 go1 rm1 rp1 => ?_⟩
    exact h F1 H1 G1 m1 vs ds d m' rm1 rp1 e Q fun v F' H' G' go3 rm3 rp3 => q v F' H' G' (go1.trans go3) rm3 rp3
  · cases e
variable {x : Str} {p : Pos}
theorem se_bl' {id : String} {r : List V → Hp → VK → Prop} {g : Fn} (hc : CallR X (.builtin id) r) (hn : OpN X.K X.mg r g) (hg : Gl X x) (hm : X.mg x = none) (hv : bootBuiltins x = some (.builtin id)) (ha : SA X (e :: es) fr) (hn' : x ≠ "__name__" := by decide) (hdb : (x == ("__debug__" : Str)) = false := by decide)
    (he : starEach (e :: es) X.env = (false, eval e X.env) :: starEach es X.env := by rfl) (hpl : (backTo pos (starEach es X.env)).any (·.1) = false := by rfl) : SE X (.Call (.Name x p) (e :: es) [] pos) (fBl g fr) :=
  se_of (pe_callB hc hg hm hv ha hn' hdb he hpl) (imp_cb hn)
theorem se_ty' {id : String} {r : List V → Hp → VK → Prop} {g : Fn} (hc : CallR X (.type id) r) (hn : OpN X.K X.mg r g) (hg : Gl X x) (hm : X.mg x = none) (hv : bootBuiltins x = some (.type id)) (ha : SA X (e :: es) fr) (hn' : x ≠ "__name__" := by decide) (hdb : (x == ("__debug__" : Str)) = false := by decide)
    (he : starEach (e :: es) X.env = (false, eval e X.env) :: starEach es X.env := by rfl) (hpl : (backTo pos (starEach es X.env)).any (·.1) = false := by rfl) : SE X (.Call (.Name x p) (e :: es) [] pos) (fBl g fr) :=
  se_of (pe_callTy hc hg hm hv ha hn' hdb he hpl) (imp_cb hn)
end
/-- len -/
def gLen : Fn
  | [x], m => (match x with
    | .str z => if z.length ≤ sizeLine then .ok (.int z.length, m) else .bad
    | .tup ds => .ok (.int ds.length, m)
    | x => (match seqR m x with
      | some ds => .ok (.int ds.length, m)
      | none => .bad))
  | _, _ => .bad
section
variable {K : PySem.W.Frag} {mg : Str → Option Value}
theorem opn_len : OpN K mg (fun xs H Q => ∃ x n, xs = [x] ∧ LenV K x H n ∧ Q (.int n) H) gLen := by
  intro F H G m xs dxs d m' rm rx e Q q
  unfold gLen at e
  split at e
  · cases rx with
    | cons r1 r2 =>
      cases r2
      split at e
      · cases r1
        split at e
        · rename_i hz
          cases e
          exact ⟨_, _, rfl, ⟨hz, rfl⟩, q _ F H G .refl rm (.int _)⟩
        · cases e
      · cases e
        cases r1 with
        | tup e1 r3 => exact ⟨_, _, rfl, .inr ⟨_, ex_t rm.sub e1, rfl⟩, by rw [r3.length]; exact q _ F H G .refl rm (.int _)⟩
      · split at e
        · rename_i ds hds
          cases e
          obtain ⟨a, ys, rfl, hs, r3⟩ := seqR_at rm r1 hds
          exact ⟨_, _, rfl, .inl ⟨_, hs, rfl⟩, by rw [r3.length]; exact q _ F H G .refl rm (.int _)⟩
        · cases e
  · cases e
def gAbs : Fn
  | [.int i], m => .ok (.int (if i < 0 then -i else i), m)
  | _, _ => .bad
theorem opn_abs : OpN K mg (fun xs H Q => ∃ i, xs = [.int i] ∧ Q (.int (if i < 0 then -i else i)) H) gAbs := by
  intro F H G m xs dxs d m' rm rx e Q q
  unfold gAbs at e
  split at e
  · cases e
    cases rx with
    | cons r1 r2 =>
      cases r1; cases r2
      exact ⟨_, rfl, q _ F H G .refl rm (.int _)⟩
  · cases e
def gInt : Fn
  | [.int i], m => .ok (.int i, m)
  | [.bl k], m => .ok (.int (if k then 1 else 0), m)
  | _, _ => .bad
theorem opn_int : OpN K mg (fun xs H Q => (∃ i, xs = [.int i] ∧ Q (.int i) H) ∨ ∃ k, xs = [.bl k] ∧ Q (.int (if k then 1 else 0)) H) gInt := by
  intro F H G m xs dxs d m' rm rx e Q q
  unfold gInt at e
  split at e
  · cases e
    cases rx with
    | cons r1 r2 =>
      cases r1; cases r2
      exact .inl ⟨_, rfl, q _ F H G .refl rm (.int _)⟩
  · cases e
    cases rx with
    | cons r1 r2 =>
      cases r1; cases r2
      exact .inr ⟨_, rfl, q _ F H G .refl rm (.int _)⟩
  · cases e
def gMax2 : Fn
  | [.int i, .int j], m => .ok (.int (if j > i then j else i), m)
  | _, _ => .bad
theorem opn_max2 : OpN K mg (fun xs H Q => ∃ i j, xs = [.int i, .int j] ∧ Q (.int (if j > i then j else i)) H) gMax2 := by
  intro F H G m xs dxs d m' rm rx e Q q
  unfold gMax2 at e
  split at e
  · cases e
    cases rx with
    | cons r1 r2 =>
      cases r2 with
      | cons r2 r3 =>
        cases r1; cases r2; cases r3
        exact ⟨_, _, rfl, q _ F H G .refl rm (.int _)⟩
  · cases e
def gMin2 : Fn
  | [.int i, .int j], m => .ok (.int (if j < i then j else i), m)
  | _, _ => .bad
theorem opn_min2 : OpN K mg (fun xs H Q => ∃ i j, xs = [.int i, .int j] ∧ Q (.int (if j < i then j else i)) H) gMin2 := by
  intro F H G m xs dxs d m' rm rx e Q q
  unfold gMin2 at e
  split at e
  · cases e
    cases rx with
    | cons r1 r2 =>
      cases r2 with
      | cons r2 r3 =>
        cases r1; cases r2; cases r3
        exact ⟨_, _, rfl, q _ F H G .refl rm (.int _)⟩
  · cases e
/-- list(x), tuple(x) -/
def gList (c : Bool) : Fn
  | [x], m => (match x with
    | .tup ds => .ok (mkL c ds m)
    | x => (match seqR m x with
      | some ds => .ok (mkL c ds m)
      | none => .bad))
  | _, _ => .bad
theorem opn_list (c : Bool) : OpN K mg (fun xs H Q => ∃ p ys, xs = [.ref p] ∧ (SqL K H p ys ∨ SqT K H p ys) ∧ ∀ l, H l = none → Q (.ref l) (upd H l (.lst ys))) (gList c) := by
  intro F H G m xs dxs d m' rm rx e Q q
  unfold gList at e
  split at e
  · cases rx with
    | cons r1 r2 =>
      cases r2
      split at e
      · have e3 := R.ok.inj e
        cases r1 with
        | tup e1 r3 =>
          refine ⟨_, _, rfl, .inr (ex_t rm.sub e1), fresh_lst (c := c) rm r3 fun v F' H' G' go rm' r => ?_⟩
          rw [e3] at rm' r
          exact q v F' H' G' go rm' r
      · split at e
        · rename_i ds hds
          have e3 := R.ok.inj e
          obtain ⟨a, ys, rfl, hs, r3⟩ := seqR_at rm r1 hds
          refine ⟨_, _, rfl, .inl hs, fresh_lst (c := c) rm r3 fun v F' H' G' go rm' r => ?_⟩
          rw [e3] at rm' r
          exact q v F' H' G' go rm' r
        · cases e
  · cases e
def gTuple : Fn
  | [x], m => (match x with
    | .tup ds => .ok (.tup ds, m)
    | x => (match seqR m x with
      | some ds => .ok (.tup ds, m)
      | none => .bad))
  | _, _ => .bad
theorem opn_tuple : OpN K mg (fun xs H Q => ∃ p ys, xs = [.ref p] ∧ ((SqL K H p ys ∧ ∀ l, H l = none → Q (.ref l) (upd H l (.tup ys))) ∨ (SqT K H p ys ∧ Q (.ref p) H))) gTuple := by
  intro F H G m xs dxs d m' rm rx e Q q
  unfold gTuple at e
  split at e
  · cases rx with
    | cons r1 r2 =>
      cases r2
      split at e
      · cases e
        cases r1 with
        | tup e1 r3 => exact ⟨_, _, rfl, .inr ⟨ex_t rm.sub e1, q _ F H G .refl rm (.tup e1 r3)⟩⟩
      · split at e
        · rename_i ds hds
          cases e
          obtain ⟨a, ys, rfl, hs, r3⟩ := seqR_at rm r1 hds
          exact ⟨_, _, rfl, .inl ⟨hs, fresh_tup rm r3 q⟩⟩
        · cases e
  · cases e
/-- whole numbers of data -/
def intsD : List D → Option (List Int)
  | [] => some []
  | .int i :: ds => (match intsD ds with
    | some ns => some (i :: ns)
    | none => none)
  | _ :: _ => none
theorem intsD_map : ∀ ns : List Int, intsD (ns.map D.int) = some ns
  | [] => rfl
  | n :: ns => by simp only [List.map_cons, intsD, intsD_map ns]
theorem intsD_of : ∀ {ds : List D} {ns : List Int}, intsD ds = some ns → ds = ns.map D.int
  | [], _, h => by cases h; rfl
  | .int i :: ds, ns, h => by
    simp only [intsD] at h
    split at h
    · rename_i ns' h'
      cases h
      rw [intsD_of h']
      rfl
    · cases h
  | .non :: _, _, h => by cases h
  | .bl _ :: _, _, h => by cases h
  | .str _ :: _, _, h => by cases h
  | .tup _ :: _, _, h => by cases h
  | .lst _ :: _, _, h => by cases h
  | .scr _ :: _, _, h => by cases h
  | .obj _ _ :: _, _, h => by cases h
  | .loc _ :: _, _, h => by cases h
def gSum : Fn
  | [x], m => (match seqR m x with
    | some ds => (match intsD ds with
      | some ns => .ok (.int ns.sum, m)
      | none => .bad)
    | none => .bad)
  | _, _ => .bad
theorem opn_sum : OpN K mg (rSum K) gSum := by
  intro F H G m xs dxs d m' rm rx e Q q
  unfold gSum at e
  split at e
  · cases rx with
    | cons r1 r2 =>
      cases r2
      split at e
      · rename_i ds hds
        split at e
        · rename_i ns hns
          cases e
          obtain ⟨a, ys, rfl, hs, r3⟩ := seqR_at rm r1 hds
          rw [intsD_of hns] at r3
          rw [r3.ints] at hs
          exact ⟨_, _, rfl, hs, q _ F H G .refl rm (.int _)⟩
        · cases e
      · cases e
  · cases e
/-- isinstance(x, T), T a built-in class -/
def tyD (m : Mem) : D → Option String
  | .non => some "NoneType"
  | .bl _ => some "bool"
  | .int _ => some "int"
  | .str _ => some "str"
  | .tup _ => some "tuple"
  | .lst _ => some "list"
  | .scr _ => some "list"
  | .loc n => (match seqL m (.loc n) with
    | some _ => some "list"
    | none => none)
  | .obj _ _ => none
theorem tyD_ok {F H : Hp} {G : List Addr} {m : Mem} (rm : Rm K mg F H G m) {d : D} {v : V} {s : String} (r : Rp K mg F G v d) (h : tyD m d = some s) : TyX K H v (.type s) := by
  cases r with
  | non => cases h; exact .base .non
  | bl b => cases h; exact .base (.bl b)
  | int i => cases h; exact .base (.int i)
  | str x => cases h; exact .base (.str x)
  | tup e q =>
    cases h
    rcases ex_t rm.sub e with (e | ⟨o, e⟩) | ⟨o, its, n, e, c, _⟩
    · exact .base (.tup e)
    · exact .fTuple e
    · exact .kTuple e c
  | lst e q => cases h; exact .base (.lst (rm.sub _ _ e))
  | scr e q =>
    cases h
    rcases ex_l rm.sub e with (e | ⟨o, e⟩) | ⟨o, its, n, e, c, _⟩
    · exact .base (.lst e)
    · exact .base (.frz e)
    · exact .kList e c
  | @loc a n e =>
    simp only [tyD] at h
    split at h
    · rename_i ds hs
      cases h
      obtain ⟨a', xs, e1, e2, _⟩ := seqL_at rm (.loc e) hs
      cases e1
      exact .base (.lst e2)
    · cases h
  | obj c e q => cases h
end
/-- the answers of isinstance for the built-in classes met -/
def isiB (a b : String) : Option Bool := kitB a b
def gIsi (b : String) (x : D) (m : Mem) : R (D × Mem) := match tyD m x with
  | some a => (match kitB a b with
    | some r => .ok (.bl r, m)
    | none => .bad)
  | none => .bad
/-- isinstance(e, T) -/
def fIsi (b : String) (fa : FE) : FE := fun env m => match fa env m with
  | .ok (x, m1) => gIsi b x m1
  | .bad => .bad
theorem se_isi {X : Cx} {e : Expr} {fa : FE} {pos p p2 : Pos} {t : Str} (b : String) (he : SE X e fa) (hg : Gl X "isinstance") (hm : X.mg "isinstance" = none) (hv : bootBuiltins "isinstance" = some (.builtin "isinstance"))
    (ht : PE X (.Name t p2) (tC (.ty b)))
    (hs : starEach [e, .Name t p2] X.env = (false, eval e X.env) :: starEach [.Name t p2] X.env := by rfl) (hs2 : starEach [.Name t p2] X.env = (false, eval (.Name t p2) X.env) :: starEach [] X.env := by rfl)
    (hpl : (backTo pos (starEach [.Name t p2] X.env)).any (·.1) = false := by rfl) : SE X (.Call (.Name "isinstance" p) [e, .Name t p2] [] pos) (fIsi b fa) :=
  se_of (pe_callB call_isi hg hm hv (pa_cons he (pa_cons ht pa_nil hs2) hs) (by decide) (by decide) hs hpl) fun σ H Q h => by
    obtain ⟨F, G, m, env, d, m', rm, re, e, q⟩ := h
    unfold fIsi at e
    split at e
    · rename_i x m1 e1
      unfold gIsi at e
      split at e
      · rename_i a ha
        split at e
        · rename_i r hr
          cases e
          refine ⟨F, G, m, env, x, m', rm, re, e1, fun v F1 H1 G1 go1 rm1 rp1 => ?_⟩
          exact ⟨v, _, _, _, r, rfl, .ty b, tyD_ok rm1 rp1 ha, kit_ty hr, q _ F1 H1 G1 go1 rm1 (.bl r)⟩
        · cases e
      · cases e
    · cases e
end Sm


set_option Elab.async false
set_option linter.all false
set_option maxRecDepth 100000
set_option maxHeartbeats 2000000
/-! Sem3: defs and their calls, targets, loops, comprehensions, statements. -/
namespace Sm
open PySem PySem.Spec PyProof.Rows L2

/-! ### defs -/
def spOf (K : PySem.W.Frag) (mg : Str → Option Value) (n : Nat) (g : Fn) : Sp := fun vs H Q _ => ∃ F G m ds d m', Rm K mg F H G m ∧ Rps K mg F G vs ds ∧ ds.length = n ∧ g ds m = .ok (d, m') ∧ ∀ v F' H' G', Go F H G F' H' G' → Rm K mg F' H' G' m' → Rp K mg F' G' v d → Q v H'
/-- the def x of the text computes g -/
structure Def (P : Program) (w : World) (K : PySem.W.Frag) (mg : Str → Option Value) (base : Heap) (k : Nat) (x : Str) (st : Stmt) (ps : List Str) (g : Fn) : Prop where
  ex : ∃ qual f fd, Fun K x qual st f fd ∧ Binds K fd ps [] ∧ mg x = some (.ref f) ∧ FnOk P w K mg base CX0 k f fd ps (spOf K mg ps.length g)
/-- a def of the text, whatever it computes -/
structure Txt (K : PySem.W.Frag) (mg : Str → Option Value) (x qual : Str) (st : Stmt) (ps : List Str) : Prop where
  ex : ∃ f fd, Fun K x qual st f fd ∧ Binds K fd ps [] ∧ mg x = some (.ref f)
section
variable {P : Program} {w : World} {K : PySem.W.Frag} {mg : Str → Option Value} {base : Heap} {k : Nat} {x qual : Str} {st : Stmt} {ps : List Str} {g : Fn}
theorem Def.mono {j : Nat} (h : Def P w K mg base j x st ps g) (e : j ≤ k) : Def P w K mg base k x st ps g := by
  obtain ⟨q, f, fd, a, b, c, d⟩ := h.ex
  exact ⟨q, f, fd, a, b, c, d.mono e⟩
theorem Def.imp {g' : Fn} (h : Def P w K mg base k x st ps g) (i : ∀ vs H Q E, spOf K mg ps.length g' vs H Q E → spOf K mg ps.length g vs H Q E) : Def P w K mg base k x st ps g' := by
  obtain ⟨q, f, fd, a, b, c, d⟩ := h.ex
  exact ⟨q, f, fd, a, b, c, d.imp i⟩
/-- a def's body as it computes: n slots -/
def mkFn (n : Nat) (body : FS) : Fn := fun ds m => match body (ds.map some ++ List.replicate (n - ds.length) none) m with
  | .ok (.rt d, _, m1) => .ok (d, m1)
  | .ok (.nx, _, m1) => .ok (.non, m1)
  | _ => .bad
theorem re_start {F : Hp} {G : List Addr} {vs : List V} {ds : List D} (r : Rps K mg F G vs ds) (N : List Str) : Re K mg F G (start N vs) (ds.map some ++ List.replicate (N.length - ds.length) none) := by
  refine ⟨?_, fun i d h => ?_⟩
  · unfold L2.start
    rw [List.length_append, List.length_append, List.length_map, List.length_map, List.length_replicate, List.length_replicate, r.length]
  · unfold L2.start
    have hi : i < ds.length := by
      by_cases hi : i < ds.length
      · exact hi
      · rw [List.getElem?_append_right (by simpa using hi), List.getElem?_replicate] at h
        split at h <;> cases h
    rw [List.getElem?_append_left (by simpa using hi), List.getElem?_map] at h
    rw [List.getElem?_append_left (by rw [List.length_map, r.length]; exact hi), List.getElem?_map]
    cases e : ds[i]? with
    | none => rw [e] at h; cases h
    | some u =>
      rw [e] at h
      cases h
      obtain ⟨v, hv, q⟩ := r.get e
      exact ⟨v, by rw [hv]; rfl, q⟩
/-- THE RULE of a def -/
theorem def_of {N : List Str} {body : FS} (T : Txt K mg x qual st ps) (S : FnScope N ps (defScope st))
    (h : ∀ (f : Addr) (cdv : Value) (A : Around) (outer : List PySem.Env) (s : Shared) (H : Hp) (E : XK), Room k (A.deeper (envOfC qual (defScope st) s.heap.objs.size f cdv)) → SSs (cxOf CX0 P w K mg base N qual (defScope st) f cdv A outer s H E).nox (defBody st) body) :
    Def P w K mg base (k + 1) x st ps (mkFn N.length body) := by
  obtain ⟨f, fd, a, b, c⟩ := T.ex
  refine ⟨qual, f, fd, a, b, c, a.ok S (fun vs H Q E q => ?_) fun cdv A outer s H vs Q E hr q => ⟨_, h f cdv A outer s H E hr, ?_⟩⟩
  · obtain ⟨F, G, m, ds, d, m', rm, r, hl, e, q⟩ := q
    rw [r.length]
    exact hl
  · obtain ⟨F, G, m, ds, d, m', rm, r, hl, e, q⟩ := q
    unfold mkFn at e
    split at e
    · rename_i d' env' m1 e1
      cases e
      exact ⟨F, G, m, _, _, rm, re_start r N, e1, fun σ' F' H' G' go rm' re' v rv => q v F' H' G' go rm' rv⟩
    · rename_i env' m1 e1
      cases e
      exact ⟨F, G, m, _, _, rm, re_start r N, e1, fun σ' F' H' G' go rm' re' => q .non F' H' G' go rm' .non⟩
    · cases e
end
/-! ### data that leans on nothing that changes -/
mutual
def below (n : Nat) : D → Bool
  | .non => true
  | .bl _ => true
  | .int _ => true
  | .str _ => true
  | .tup ds => belows n ds
  | .lst ds => belows n ds
  | .scr ds => belows n ds
  | .obj _ fs => belowf n fs
  | .loc k => decide (k < n)
def belows (n : Nat) : List D → Bool
  | [] => true
  | d :: ds => below n d && belows n ds
def belowf (n : Nat) : List (Str × D) → Bool
  | [] => true
  | (_, d) :: ds => below n d && belowf n ds
end
section
variable {K : PySem.W.Frag} {mg : Str → Option Value} {F : Hp} {G G' : List Addr}
mutual
theorem Rp.under {n : Nat} (hg : ∀ k, k < n → G'[k]? = G[k]?) : ∀ (d : D) (v : V), Rp K mg F G v d → below n d = true → Rp K mg F G' v d
  | .non, _, r, _ => by cases r; exact .non
  | .bl _, _, r, _ => by cases r; exact .bl _
  | .int _, _, r, _ => by cases r; exact .int _
  | .str _, _, r, _ => by cases r; exact .str _
  | .tup ds, _, r, h => by
    cases r with
    | tup e q => exact .tup e (Rps.under hg ds _ q (by simpa only [Sm.below] using h))
  | .lst ds, _, r, h => by
    cases r with
    | lst e q => exact .lst e (Rps.under hg ds _ q (by simpa only [Sm.below] using h))
  | .scr ds, _, r, h => by
    cases r with
    | scr e q => exact .scr e (Rps.under hg ds _ q (by simpa only [Sm.below] using h))
  | .obj _ fs, _, r, h => by
    cases r with
    | obj c e q => exact .obj c e (Rpf.under hg fs _ q (by simpa only [Sm.below] using h))
  | .loc k, _, r, h => by
    cases r with
    | loc e => exact .loc (by rw [hg k (by simpa only [Sm.below, decide_eq_true_eq] using h)]; exact e)
theorem Rps.under {n : Nat} (hg : ∀ k, k < n → G'[k]? = G[k]?) : ∀ (ds : List D) (vs : List V), Rps K mg F G vs ds → belows n ds = true → Rps K mg F G' vs ds
  | [], _, r, _ => by cases r; exact .nil
  | d :: ds, _, r, h => by
    cases r with
    | cons r1 r2 =>
      simp only [Sm.belows, Bool.and_eq_true] at h
      exact .cons (Rp.under hg d _ r1 h.1) (Rps.under hg ds _ r2 h.2)
theorem Rpf.under {n : Nat} (hg : ∀ k, k < n → G'[k]? = G[k]?) : ∀ (ds : List (Str × D)) (vs : List (Str × V)), Rpf K mg F G vs ds → belowf n ds = true → Rpf K mg F G' vs ds
  | [], _, r, _ => by cases r; exact .nil
  | (_, d) :: ds, _, r, h => by
    cases r with
    | cons r1 r2 =>
      simp only [Sm.belowf, Bool.and_eq_true] at h
      exact .cons (Rp.under hg d _ r1 h.1) (Rpf.under hg ds _ r2 h.2)
end
end
/-- a def that leans on nothing that changes: it runs by itself -/
def pure1 (g : Fn) : Fn := fun ds m => match frzs ds m with
  | .ok (ds', m1) => if belows 0 ds' then (match g ds' [] with
    | .ok (d, m2) => (match frz1 d m2 with
      | .ok (d', _) => if below 0 d' then .ok (d', m1) else .bad
      | .bad => .bad)
    | .bad => .bad) else .bad
  | .bad => .bad
theorem rm_nil {K : PySem.W.Frag} {mg : Str → Option Value} {F H : Hp} (s : Ex F H) : Rm K mg F H [] [] := ⟨rfl, fun _ _ _ h _ => by simp at h, s, fun _ _ _ h _ => by simp at h⟩
theorem Go.widen {F H F' H' : Hp} {G G1 : List Addr} (g : Go F H [] F' H' G1) : Go F H G F' H' G :=
  ⟨g.f, Pre.refl _, fun x o h _ => g.keep x o h (by simp), fun x o h _ e => g.thin x o h (by simp) e, fun _ q => .inl q, g.there⟩
/-- what stood stands -/
theorem Rm.widen {K : PySem.W.Frag} {mg : Str → Option Value} {F H F' H' : Hp} {G G1 : List Addr} {m m1 : Mem} (rm : Rm K mg F H G m) (g : Go F H [] F' H' G1) (rm1 : Rm K mg F' H' G1 m1) : Rm K mg F' H' G m :=
  ⟨rm.len, rm.inj, rm1.sub, fun n a c hn hm => by
    cases rm.cell n a c hn hm with
    | lst e1 e2 e3 => exact .lst (g.keep a _ e1 (by simp)) (g.thin a _ e1 (by simp) e2) (e3.mono g.f (Pre.refl _))
    | obj e0 e1 e2 e3 => exact .obj e0 (g.keep a _ e1 (by simp)) (g.thin a _ e1 (by simp) e2) (e3.mono g.f (Pre.refl _))
    | frz e1 e2 =>
      obtain ⟨o, e2⟩ := e2
      exact .frz (e1.mono g.f (Pre.refl _)) ⟨o, g.f a o e2⟩⟩
theorem frzs_length : ∀ {ds ds' : List D} {m m' : Mem}, frzs ds m = .ok (ds', m') → ds'.length = ds.length
  | [], _, _, _, h => by cases h; rfl
  | d :: ds, ds', m, m', h => by
    simp only [frzs] at h
    split at h
    · split at h
      · rename_i e2
        cases h
        rw [List.length_cons, List.length_cons, frzs_length e2]
      · cases h
    · cases h
theorem Def.pure1 {P : Program} {w : World} {K : PySem.W.Frag} {mg : Str → Option Value} {base : Heap} {k : Nat} {x : Str} {st : Stmt} {ps : List Str} {g : Fn} (h : Def P w K mg base k x st ps g) : Def P w K mg base k x st ps (pure1 g) := h.imp fun vs H Q E q => by
  obtain ⟨F, G, m, ds, d, m', rm, r, hl, e, q⟩ := q
  unfold Sm.pure1 at e
  split at e
  · rename_i ds' m1 e1
    split at e
    · rename_i hb
      split at e
      · rename_i d1 m2 e2
        split at e
        · rename_i d' m3 e3
          split at e
          · rename_i hb2
            cases e
            obtain ⟨F1, rm1, go1, r1⟩ := frzs_ok rm r e1
            refine ⟨F1, [], [], ds', d1, m2, rm_nil rm1.sub, Rps.under (n := 0) (fun k hk => absurd hk (Nat.not_lt_zero _)) ds' _ r1 hb, by rw [frzs_length e1]; exact hl, e2, fun v F2 H2 G2 go2 rm2 r2 => ?_⟩
            obtain ⟨F3, rm3, go3, r3⟩ := frz1_ok rm2 r2 e3
            have go := go2.trans go3
            exact q v F3 H2 G (go1.trans go.widen) (rm1.widen go rm3) (Rp.under (n := 0) (fun k hk => absurd hk (Nat.not_lt_zero _)) _ _ r3 hb2)
          · cases e
        · cases e
      · cases e
    · cases e
  · cases e
def cellBelow (n : Nat) : Cell → Bool
  | .lst ds => belows n ds
  | .obj _ fs => belowf n fs
  | .frz d => below n d
/-- a def that changes what it is given: what it made besides is forgotten -/
def trim1 (g : Fn) : Fn := fun ds m => match g ds m with
  | .ok (d, m1) => (match frz1 d m1 with
    | .ok (d', m2) => if m.length ≤ m2.length ∧ below m.length d' = true ∧ (m2.take m.length).all (cellBelow m.length) = true then .ok (d', m2.take m.length) else .bad
    | .bad => .bad)
  | .bad => .bad
theorem Def.trim1 {P : Program} {w : World} {K : PySem.W.Frag} {mg : Str → Option Value} {base : Heap} {k : Nat} {x : Str} {st : Stmt} {ps : List Str} {g : Fn} (h : Def P w K mg base k x st ps g) : Def P w K mg base k x st ps (trim1 g) := h.imp fun vs H Q E q => by
  obtain ⟨F, G, m, ds, d, m', rm, r, hl, e, q⟩ := q
  unfold Sm.trim1 at e
  split at e
  · rename_i d1 m1 e1
    split at e
    · rename_i d2 m2 e2
      split at e
      · rename_i hb
        obtain ⟨hm, hd, hc⟩ := hb
        cases e
        refine ⟨F, G, m, ds, d1, m1, rm, r, hl, e1, fun v F1 H1 G1 go1 rm1 r1 => ?_⟩
        obtain ⟨F2, rm2, go2, r2⟩ := frz1_ok rm1 r1 e2
        have go := go1.trans go2
        have hg : ∀ k, k < m.length → G[k]? = G1[k]? := fun k hk => by
          have hk' : k < G.length := by rw [rm.len]; exact hk
          rw [List.getElem?_eq_getElem hk', go.g k _ (List.getElem?_eq_getElem hk')]
        refine q v F2 H1 G ⟨go.f, Pre.refl _, go.keep, go.thin, fun _ z => .inl z, go.there⟩ ⟨?_, rm.inj, rm2.sub, fun n a c hn hcell => ?_⟩ (Rp.under hg _ _ r2 hd)
        · rw [List.length_take, rm.len]; omega
        · have hn' : n < m.length := by rw [← rm.len]; exact (List.getElem?_eq_some_iff.mp hn).1
          have hcb : cellBelow m.length c = true := List.all_eq_true.mp hc c (List.mem_of_getElem? hcell)
          rw [List.getElem?_take_of_lt hn'] at hcell
          cases rm2.cell n a c (go.g n a hn) hcell with
          | lst e1 e2 e3 => exact .lst e1 e2 (Rps.under hg _ _ e3 hcb)
          | obj e0 e1 e2 e3 => exact .obj e0 e1 e2 (Rpf.under hg _ _ e3 hcb)
          | frz e1 e2 => exact .frz (Rp.under hg _ _ e1 hcb) e2
      · cases e
    · cases e
  · cases e

/-! ### calls -/
def fCall (g : Fn) (n : Nat) (fr : FA) : FE := fun env m => match fr env m with
  | .ok (ds, m1) => if ds.length = n then g ds m1 else .bad
  | .bad => .bad
section
variable {X : Cx} {e : Expr} {es : List Expr} {fr : FA} {pos p : Pos} {x : Str} {k : Nat} {st : Stmt} {ps : List Str} {g : Fn}
theorem se_call {n : Nat} (d : Def X.prog X.w X.K X.mg X.base k x st ps g) (hr : Room k X.A) (hg : Gl X x) (ha : SA X (e :: es) fr) (hn : ps.length = n := by rfl) (hdb : (x == ("__debug__" : Str)) = false := by decide)
    (he : starEach (e :: es) X.env = (false, eval e X.env) :: starEach es X.env := by rfl) (hpl : (backTo pos (starEach es X.env)).any (·.1) = false := by rfl) : SE X (.Call (.Name x p) (e :: es) [] pos) (fCall g n fr) := by
  subst hn
  obtain ⟨qual, f, fd, a, b, c, d⟩ := d.ex
  refine se_of (pe_call d hr hg c a.kp b .nil pass0 ha hdb he hpl) fun σ H Q h => ?_
  obtain ⟨F, G, m, env, d, m', rm, re, e, q⟩ := h
  unfold fCall at e
  split at e
  · rename_i ds m1 e1
    split at e
    · rename_i hl
      refine ⟨F, G, m, env, ds, m1, rm, re, e1, fun vs F1 H1 G1 go1 rm1 r1 => ?_⟩
      show spOf X.K X.mg ps.length g (vs ++ []) H1 Q E0
      rw [List.append_nil]
      exact ⟨F1, G1, m1, ds, d, m', rm1, r1, hl, e, fun v F' H' G' go2 rm2 r2 => q v F' H' G' (go1.trans go2) rm2 r2⟩
    · cases e
  · cases e
end
/-- the keywords' values put in the parameters' order: the i-th parameter is given by the is[i]-th keyword -/
def pick {α : Type} (is : List Nat) (ws : List α) : List α := is.filterMap fun i => ws[i]?
theorem Rps.pick {K : PySem.W.Frag} {mg : Str → Option Value} {F : Hp} {G : List Addr} {vs : List V} {ds : List D} (r : Rps K mg F G vs ds) : ∀ is : List Nat, Rps K mg F G (pick is vs) (pick is ds)
  | [] => .nil
  | i :: is => by
    unfold Sm.pick
    rw [List.filterMap_cons, List.filterMap_cons]
    cases e : ds[i]? with
    | none =>
      have e2 : vs[i]? = none := by
        rw [List.getElem?_eq_none_iff] at e ⊢
        rw [r.length]; exact e
      rw [e2]
      exact r.pick is
    | some d =>
      obtain ⟨v, hv, q⟩ := r.get e
      rw [hv]
      exact .cons q (r.pick is)
theorem vals_pick {vs : List V} {us : List Value} (r : Vals vs us) : ∀ is : List Nat, Vals (pick is vs) (pick is us)
  | [] => .nil
  | i :: is => by
    unfold Sm.pick
    rw [List.filterMap_cons, List.filterMap_cons]
    cases e : vs[i]? with
    | none =>
      rw [r.none_of e]
      exact vals_pick r is
    | some v =>
      obtain ⟨u, hu, q⟩ := r.get e
      rw [hu]
      exact .cons q (vals_pick r is)
/-- f(k = v, ..): keywords alone -/
theorem pe_callK0 {X : Cx} {CX : CXT} {k : Nat} {f : Addr} {fd : FuncData} {ps ks : List Str} {sp : Sp} {E : XK} {x : Str} {p pos : Pos} {kws : List Keyword} {tk : TA} (is : List Nat)
    (F : FnOk X.prog X.w X.K X.mg X.base CX k f fd ps sp) (hr : Room k X.A) (hg : Gl X x) (hm : X.mg x = some (.ref f)) (hk : PySem.W.keepIn X.K (.ref f) = true)
    (hb : ∀ ws : List Value, ws.length = ks.length → bindArgs fd ⟨[], ks.zip ws⟩ = pure (ps.zip (pick is ws))) (hx : Passes CX X E)
    (hkw : PK X kws tk) (hall : (backToKw pos (keywordEach kws X.env)).all (·.1.isSome) = true := by rfl) (hks : (backToKw pos (keywordEach kws X.env)).filterMap (·.1) = ks := by rfl)
    (hdb : (x == ("__debug__" : Str)) = false := by decide)
    (hpl : ((backTo pos (starEach [] X.env)).any (·.1) || (backToKw pos (keywordEach kws X.env)).any (·.1.isNone)) = false := by rfl) :
    PE X (.Call (.Name x p) [] kws pos) (fun σ H Q => tk σ H fun zs H2 => zs.length = ks.length ∧ sp (pick is zs) H2 Q E) := by
  refine ⟨fun pins s σ H Q I h => ?_⟩
  refine wpAny_Call_Name_kw (ld_glob I hg hm ?_ hdb)
  refine PySem.W.callWith_KW0 (h₀ := X.base) I.ok.mod.kin hk hall ?_ hpl
  refine thn (hkw.run pos pins s σ H _ I h) fun ws s2 ⟨zs, H2, I2, rz, hl, q2⟩ => ⟨I2.kIn, ?_⟩
  rw [hks]
  have hl2 : ws.length = ks.length := by rw [← rz.length]; exact hl
  refine wpAny_call (codeAny_mono (F.run X.A X.stack s2 H2 ⟨[], ks.zip ws⟩ (pick is ws) (pick is zs) Q E hr I2.env0 (.of_eq (hb ws hl2)) (vals_pick rz is) q2) fun r s' hq => ?_)
  cases r with
  | error e => exact hx pins σ H2 s2 e s' I2 hq
  | ok fl =>
    cases fl with
    | ret u => exact I2.after hq
    | next => exact False.elim hq
    | brk => exact False.elim hq
    | cont => exact False.elim hq
abbrev SK (X : Cx) (kws : List Keyword) (f : FA) : Prop := PK X kws (aT X.K X.mg f)
theorem pk_imp {X : Cx} {kws : List Keyword} {t u : TA} (h : PK X kws t) (i : ∀ σ H Q, u σ H Q → t σ H Q) : PK X kws u := by
  constructor
  intro pos pins s σ H Q I q
  exact h.run pos pins s σ H Q I (i σ H Q q)
section
variable {X : Cx} {e : Expr} {kws : List Keyword} {nm : Option Str} {kpos : Pos} {fe : FE} {fr : FA}
theorem sk_nil : SK X [] fNil := pk_imp pk_nil fun σ H Q h => by
  obtain ⟨F, G, m, env, ds, m', rm, re, e, q⟩ := h
  cases e
  exact q [] F H G .refl rm .nil
theorem sk_cons (ha : SE X e fe) (hr : SK X kws fr) : SK X (⟨nm, e, kpos⟩ :: kws) (fCons fe fr) := pk_imp (pk_cons ha hr) fun σ H Q h => by
  obtain ⟨F, G, m, env, ds, m', rm, re, e, q⟩ := h
  unfold fCons at e
  split at e
  · rename_i d m1 e1
    split at e
    · rename_i ds' m2 e2
      cases e
      exact ⟨F, G, m, env, d, m1, rm, re, e1, fun v F1 H1 G1 go1 rm1 rp1 => ⟨F1, G1, m1, env, ds', m', rm1, re.go go1, e2, fun vs F2 H2 G2 go2 rm2 rp2 => q _ F2 H2 G2 (go1.trans go2) rm2 (.cons (rp1.go go2) rp2)⟩⟩
    · cases e
  · cases e
end
def fCallK (g : Fn) (n : Nat) (is : List Nat) (fr : FA) : FE := fun env m => match fr env m with
  | .ok (ds, m1) => if ds.length = n ∧ (pick is ds).length = n then g (pick is ds) m1 else .bad
  | .bad => .bad
/-- hb: «fun _ _ _ _ _ _ _ us hl => match us, hl with | [_, _], _ => rfl», a _ a keyword -/
theorem se_callK {n : Nat} {X : Cx} {kws : List Keyword} {fr : FA} {pos p : Pos} {x : Str} {k : Nat} {st : Stmt} {ps ks : List Str} {g : Fn} (d : Def X.prog X.w X.K X.mg X.base k x st ps g) (hr : Room k X.A) (hg : Gl X x) (is : List Nat)
    (hb : ∀ (qual : Str) (kV doc pm : Value) (an : Option Addr) (cdv ct : Value) (us : List Value), us.length = ks.length → bindArgs (PySem.W.fnOf x qual (defArgs st) (defBody st) (defScope st) .none kV doc pm an cdv ct) ⟨[], ks.zip us⟩ = pure (ps.zip (pick is us)))
    (hkp : ks.length = ps.length)
    (hkw : SK X kws fr) (hn : ps.length = n := by rfl) (hall : (backToKw pos (keywordEach kws X.env)).all (·.1.isSome) = true := by rfl) (hks : (backToKw pos (keywordEach kws X.env)).filterMap (·.1) = ks := by rfl)
    (hdb : (x == ("__debug__" : Str)) = false := by decide)
    (hpl : ((backTo pos (starEach [] X.env)).any (·.1) || (backToKw pos (keywordEach kws X.env)).any (·.1.isNone)) = false := by rfl) : SE X (.Call (.Name x p) [] kws pos) (fCallK g n is fr) := by
  subst hn
  obtain ⟨qual, f, fd, a, b, c, d⟩ := d.ex
  have kb : ∀ ws : List Value, ws.length = ks.length → bindArgs fd ⟨[], ks.zip ws⟩ = pure (ps.zip (pick is ws)) := by
    obtain ⟨oc, od, kV, doc, pm, an, cdv, ct, osl, efd, lk, hcd⟩ := a.ex
    subst efd
    exact hb qual kV doc pm an cdv ct
  refine se_of (pe_callK0 is d hr hg c a.kp kb pass0 hkw hall hks hdb hpl) fun σ H Q h => ?_
  obtain ⟨F, G, m, env, d, m', rm, re, e, q⟩ := h
  unfold fCallK at e
  split at e
  · rename_i ds m1 e1
    split at e
    · rename_i hl
      refine ⟨F, G, m, env, ds, m1, rm, re, e1, fun vs F1 H1 G1 go1 rm1 r1 => ⟨by rw [r1.length, hkp]; exact hl.1, ?_⟩⟩
      exact ⟨F1, G1, m1, _, d, m', rm1, r1.pick is, hl.2, e, fun v F' H' G' go2 rm2 r2 => q v F' H' G' (go1.trans go2) rm2 r2⟩
    · cases e
  · cases e
end Sm


set_option Elab.async false
set_option linter.all false
set_option maxRecDepth 100000
set_option maxHeartbeats 2000000
/-! Sem4: targets, what is walked, loops, comprehensions, statements. -/
namespace Sm
open PySem PySem.Spec PyProof.Rows L2

/-! ### targets -/
section
variable (K : PySem.W.Frag) (mg : Str → Option Value)
def gT (ts : List Nat) (b : FB) : TG := fun v σ H Q => ∃ F G m d env env', Rm K mg F H G m ∧ Rp K mg F G v d ∧ Re K mg F G σ env ∧ b d env = .ok env' ∧ ∀ σ', Re K mg F G σ' env' → σ'.length = σ.length → (∀ i, i ∉ ts → σ'[i]? = σ[i]?) → Q σ' H
def gTs (ts : List Nat) (b : List D → Env → R Env) : TGs := fun vs σ H Q => ∃ F G m ds env env', Rm K mg F H G m ∧ Rps K mg F G vs ds ∧ Re K mg F G σ env ∧ b ds env = .ok env' ∧ ∀ σ', Re K mg F G σ' env' → σ'.length = σ.length → (∀ i, i ∉ ts → σ'[i]? = σ[i]?) → Q σ' H
end
abbrev SG (X : Cx) (ts : List Nat) (tg : Expr) (b : FB) : Prop := PG X tg (gT X.K X.mg ts b)
abbrev SGs (X : Cx) (ts : List Nat) (es : List Expr) (b : List D → Env → R Env) : Prop := PGs X es (gTs X.K X.mg ts b)
theorem pg_imp {X : Cx} {tg : Expr} {t u : TG} (h : PG X tg t) (i : ∀ v σ H Q, u v σ H Q → t v σ H Q) : PG X tg u := by
  constructor
  intro pins s σ H v w Q I r q
  exact h.run pins s σ H v w Q I r (i v σ H Q q)
theorem pgs_imp {X : Cx} {es : List Expr} {t u : TGs} (h : PGs X es t) (i : ∀ v σ H Q, u v σ H Q → t v σ H Q) : PGs X es u := by
  constructor
  intro pins s σ H v w Q I r q
  exact h.run pins s σ H v w Q I r (i v σ H Q q)
def bName (i : Nat) : FB := fun d env => .ok (env.set i (some d))
def bNil : List D → Env → R Env
  | [], env => .ok env
  | _, _ => .bad
def bCons (b : FB) (bs : List D → Env → R Env) : List D → Env → R Env
  | d :: ds, env => (match b d env with
    | .ok env1 => bs ds env1
    | .bad => .bad)
  | [], _ => .bad
def bTup (n : Nat) (bs : List D → Env → R Env) : FB := fun d env => match d with
  | .tup ds => if ds.length = n then bs ds env else .bad
  | _ => .bad
section
variable {X : Cx} {pos : Pos} {x : Str} {tg : Expr} {es : List Expr} {ts us : List Nat} {b : FB} {bs : List D → Env → R Env}
theorem sg_name {i : Nat} (hN : X.N.Nodup) (hi : X.N[i]? = some x := by rfl) (hx : Loc X.env.scope x := by first | exact Or.inl rfl | exact Or.inr rfl) (hf : X.fn x = true ∨ X.env.scope.names.lookup x = some .local := by first | exact .inl rfl | exact .inr rfl | assumption) :
    SG X [i] (.Name x pos) (bName i) := pg_imp (pg_name hN hi hx hf) fun v σ H Q h => by
  obtain ⟨F, G, m, d, env, env', rm, rp, re, e, q⟩ := h
  cases e
  refine q _ (re.set i rp) (List.length_set ..) fun j hj => ?_
  rw [List.getElem?_set_ne (fun z => hj (by rw [z]; exact List.mem_singleton_self _))]
theorem sgs_nil : SGs X [] [] bNil := pgs_imp pgs_nil fun v σ H Q h => by
  obtain ⟨F, G, m, d, env, env', rm, rp, re, e, q⟩ := h
  unfold bNil at e
  split at e
  · cases e; cases rp
    exact ⟨rfl, q σ re rfl fun _ _ => rfl⟩
  · cases e
theorem sgs_cons (h : SG X ts tg b) (hr : SGs X us es bs) (hs : (assignEach (tg :: es) X.env).map (·.2) = assign tg X.env :: (assignEach es X.env).map (·.2) := by rfl) : SGs X (ts ++ us) (tg :: es) (bCons b bs) := pgs_imp (pgs_cons h hr hs) fun v σ H Q h => by
  obtain ⟨F, G, m, ds, env, env', rm, rp, re, e, q⟩ := h
  unfold bCons at e
  split at e
  · split at e
    · rename_i env1 e1
      cases rp with
      | cons r1 r2 =>
        refine ⟨_, _, rfl, F, G, m, _, env, env1, rm, r1, re, e1, fun σ1 re1 l1 o1 => ⟨F, G, m, _, env1, env', rm, r2, re1, e, fun σ2 re2 l2 o2 => q σ2 re2 (l2.trans l1) fun i hi => ?_⟩⟩
        rw [List.mem_append, not_or] at hi
        rw [o2 i hi.2, o1 i hi.1]
    · cases e
  · cases e
theorem sg_tup {k n : Nat} (hc : X.calm = true) (h : SGs X ts es bs) (hn : (assignEach es X.env).length = n := by rfl) (hst : (assignEach es X.env).findIdx? (·.1) = none := by rfl) : SG X ts (.Tuple es k pos) (bTup n bs) := pg_imp (pg_tup hc h hn hst) fun v σ H Q h => by
  obtain ⟨F, G, m, d, env, env', rm, rp, re, e, q⟩ := h
  unfold bTup at e
  split at e
  · split at e
    · rename_i hl
      cases rp with
      | tup e1 r1 => exact ⟨_, _, rfl, ex_t rm.sub e1, by rw [r1.length]; exact hl, F, G, m, _, env, env', rm, r1, re, e, q⟩
    · cases e
  · cases e
end

/-! ### what is walked -/
abbrev FI := Env → Mem → R (List D × Mem)
/-- the walk J gives these items -/
def Wk (K : PySem.W.Frag) (mg : Str → Option Value) (J : It) (F : Hp) (G : List Addr) (items : List D) : Prop :=
  ∀ F' H G' m, Ex F F' → Pre G G' → Rm K mg F' H G' m → ∀ i : Nat, (items.length ≤ i → J.stop i H) ∧ (∀ d, items[i]? = some d → J.go i H ∧ ∀ x H', J.yld i H x H' → ∃ F'', Go F' H G' F'' H' G' ∧ Rm K mg F'' H' G' m ∧ Rp K mg F'' G' x d)
def iT (K : PySem.W.Frag) (mg : Str → Option Value) (f : FI) : TI := fun σ H Rr => ∃ F G m env items m', Rm K mg F H G m ∧ Re K mg F G σ env ∧ f env m = .ok (items, m') ∧ ∀ J F' H' G', Go F H G F' H' G' → Rm K mg F' H' G' m' → Wk K mg J F' G' items → Rr J H'
abbrev SI (X : Cx) (tg it : Expr) (f : FI) : Prop := PI X tg it (iT X.K X.mg f)
theorem pi_imp {X : Cx} {tg it : Expr} {t u : TI} (h : PI X tg it t) (i : ∀ σ H Q, u σ H Q → t σ H Q) : PI X tg it u := by
  constructor
  intro pins s σ H Rr I q
  exact h.run pins s σ H Rr I (i σ H Rr q)
theorem pi_or {X : Cx} {tg it : Expr} {t u : TI} (h : PI X tg it t) (h' : PI X tg it u) : PI X tg it (fun σ H Rr => t σ H Rr ∨ u σ H Rr) := by
  constructor
  intro pins s σ H Rr I q
  rcases q with q | q
  · exact h.run pins s σ H Rr I q
  · exact h'.run pins s σ H Rr I q
def fSeq (fe : FE) : FI := fun env m => match fe env m with
  | .ok (d, m1) => (match frz1 d m1 with
    | .ok (.lst ds, m2) => .ok (ds, m2)
    | .ok (.scr ds, m2) => .ok (ds, m2)
    | .ok (.tup ds, m2) => .ok (ds, m2)
    | _ => .bad)
  | .bad => .bad
section
variable {K : PySem.W.Frag} {mg : Str → Option Value}
theorem wk_list {a : Addr} {xs : List V} {ds : List D} {F : Hp} {G : List Addr} (h : SqL K F a xs) (r : Rps K mg F G xs ds) : Wk K mg (Itl K a) F G ds := fun F' H G' m ef eg rm i => by
  have hH := ex_l rm.sub (ex_l ef h)
  refine ⟨fun hi => ⟨xs, hH, by rw [r.length]; exact hi⟩, fun d hd => ?_⟩
  obtain ⟨v, hv, rv⟩ := r.get hd
  refine ⟨⟨xs, v, hH, hv⟩, fun x H' y => ?_⟩
  obtain ⟨e, y⟩ := y
  subst e
  have e2 := y xs hH
  rw [hv] at e2
  cases e2
  exact ⟨F', .refl, rm, rv.mono ef eg⟩
theorem wk_tup {a : Addr} {xs : List V} {ds : List D} {F : Hp} {G : List Addr} (h : SqT K F a xs) (r : Rps K mg F G xs ds) : Wk K mg (Itt K a) F G ds := fun F' H G' m ef eg rm i => by
  have hH := ex_t rm.sub (ex_t ef h)
  refine ⟨fun hi => ⟨xs, hH, by rw [r.length]; exact hi⟩, fun d hd => ?_⟩
  obtain ⟨v, hv, rv⟩ := r.get hd
  refine ⟨⟨xs, v, hH, hv⟩, fun x H' y => ?_⟩
  obtain ⟨e, y⟩ := y
  subst e
  have e2 := y xs hH
  rw [hv] at e2
  cases e2
  exact ⟨F', .refl, rm, rv.mono ef eg⟩
def rangeD (lo hi : Int) : List D := (List.range (hi - lo).toNat).map fun (i : Nat) => D.int (lo + (i : Int))
theorem wk_range {lo : Int} {n : Nat} {F : Hp} {G : List Addr} : Wk K mg (Itr lo n) F G ((List.range n).map fun (i : Nat) => D.int (lo + (i : Int))) := fun F' H G' m ef eg rm i => by
  refine ⟨fun hi => ?_, fun d hd => ?_⟩
  · rw [List.length_map, List.length_range] at hi
    exact hi
  · rw [List.getElem?_map] at hd
    obtain ⟨j, hj, e⟩ := Option.map_eq_some_iff.mp hd
    have hin : i < n := by
      have := (List.getElem?_eq_some_iff.mp hj).1
      rw [List.length_range] at this
      exact this
    have ej : j = i := by
      rw [List.getElem?_range hin] at hj
      exact (Option.some.inj hj).symm
    subst ej e
    refine ⟨hin, fun x H' y => ?_⟩
    obtain ⟨e, y⟩ := y
    subst e y
    exact ⟨F', .refl, rm, .int _⟩
end
section
variable {X : Cx} {tg e a b : Expr} {fe : FE} {fr : FA} {p pos : Pos}
theorem si_seq (h : SE X e fe) : SI X tg e (fSeq fe) := pi_imp (pi_or (pi_list h) (pi_tup h)) fun σ H Q h' => by
  obtain ⟨F, G, m, env, items, m', rm, re, e, q⟩ := h'
  unfold fSeq at e
  split at e
  · rename_i d m1 e1
    split at e
    · rename_i ds m2 e2
      cases e
      refine .inl ⟨F, G, m, env, d, m1, rm, re, e1, fun v F1 H1 G1 go1 rm1 rp1 => ?_⟩
      obtain ⟨F2, rm2, go2, rp2⟩ := frz1_ok rm1 rp1 e2
      cases rp2 with
      | lst e3 r3 => exact ⟨_, rfl, ⟨_, SqL.of (rm2.sub _ _ e3)⟩, q _ F2 H1 G1 (go1.trans go2) rm2 (wk_list (SqL.of e3) r3)⟩
    · rename_i ds m2 e2
      cases e
      refine .inl ⟨F, G, m, env, d, m1, rm, re, e1, fun v F1 H1 G1 go1 rm1 rp1 => ?_⟩
      obtain ⟨F2, rm2, go2, rp2⟩ := frz1_ok rm1 rp1 e2
      cases rp2 with
      | scr e3 r3 => exact ⟨_, rfl, ⟨_, ex_l rm2.sub e3⟩, q _ F2 H1 G1 (go1.trans go2) rm2 (wk_list e3 r3)⟩
    · rename_i ds m2 e2
      cases e
      refine .inr ⟨F, G, m, env, d, m1, rm, re, e1, fun v F1 H1 G1 go1 rm1 rp1 => ?_⟩
      obtain ⟨F2, rm2, go2, rp2⟩ := frz1_ok rm1 rp1 e2
      cases rp2 with
      | tup e3 r3 => exact ⟨_, rfl, ⟨_, ex_t rm2.sub e3⟩, q _ F2 H1 G1 (go1.trans go2) rm2 (wk_tup e3 r3)⟩
    · cases e
  · cases e
def fRng1 (fr : FA) : FI := fun env m => match fr env m with
  | .ok ([.int j], m1) => if -(2 ^ 62) ≤ j ∧ j < 2 ^ 62 then .ok (rangeD 0 j, m1) else .bad
  | _ => .bad
def fRng2 (fr : FA) : FI := fun env m => match fr env m with
  | .ok ([.int i, .int j], m1) => if -(2 ^ 62) ≤ i ∧ i < 2 ^ 62 ∧ -(2 ^ 62) ≤ j ∧ j < 2 ^ 62 then .ok (rangeD i j, m1) else .bad
  | _ => .bad
theorem si_range1 (hg : Gl X "range") (hm : X.mg "range" = none) (ha : SA X [a] fr) (hs : starEach [a] X.env = [(false, eval a X.env)] := by rfl) : SI X tg (.Call (.Name "range" p) [a] [] pos) (fRng1 fr) :=
  pi_imp (pi_range1 hg hm ha hs) fun σ H Q h' => by
    obtain ⟨F, G, m, env, items, m', rm, re, e, q⟩ := h'
    unfold fRng1 at e
    split at e
    · rename_i j m1 e1
      split at e
      · rename_i hj
        cases e
        refine ⟨F, G, m, env, _, _, rm, re, e1, fun vs F1 H1 G1 go1 rm1 r1 => ?_⟩
        cases r1 with
        | cons r1 r2 =>
          cases r1; cases r2
          refine ⟨j, rfl, hj.1, hj.2, q _ F1 H1 G1 go1 rm1 ?_⟩
          have := wk_range (K := X.K) (mg := X.mg) (lo := 0) (n := j.toNat) (F := F1) (G := G1)
          unfold rangeD
          rw [Int.sub_zero]
          exact this
      · cases e
    · cases e
theorem si_range2 (hg : Gl X "range") (hm : X.mg "range" = none) (ha : SA X [a, b] fr) (hs : starEach [a, b] X.env = [(false, eval a X.env), (false, eval b X.env)] := by rfl) (hs2 : starEach [b] X.env = [(false, eval b X.env)] := by rfl) :
    SI X tg (.Call (.Name "range" p) [a, b] [] pos) (fRng2 fr) :=
  pi_imp (pi_range2 hg hm ha hs hs2) fun σ H Q h' => by
    obtain ⟨F, G, m, env, items, m', rm, re, e, q⟩ := h'
    unfold fRng2 at e
    split at e
    · rename_i i j m1 e1
      split at e
      · rename_i hj
        cases e
        refine ⟨F, G, m, env, _, _, rm, re, e1, fun vs F1 H1 G1 go1 rm1 r1 => ?_⟩
        cases r1 with
        | cons r1 r2 =>
          cases r2 with
          | cons r2 r3 =>
            cases r1; cases r2; cases r3
            exact ⟨i, j, rfl, hj, q _ F1 H1 G1 go1 rm1 wk_range⟩
      · cases e
    · cases e
end

/-! ### for, while -/
def forL (b : FB) (body : FS) : List D → Env → Mem → R (Fl × Env × Mem)
  | [], env, m => .ok (.nx, env, m)
  | d :: ds, env, m => (match b d env with
    | .ok env1 => (match body env1 m with
      | .ok (.nx, env2, m2) => forL b body ds env2 m2
      | .ok (.ct, env2, m2) => forL b body ds env2 m2
      | .ok (.bk, env2, m2) => .ok (.nx, env2, m2)
      | .ok (.rt d, env2, m2) => .ok (.rt d, env2, m2)
      | .bad => .bad)
    | .bad => .bad)
def fFor (fi : FI) (b : FB) (body : FS) : FS := fun env m => match fi env m with
  | .ok (items, m1) => forL b body items env m1
  | .bad => .bad
theorem imp_for {K : PySem.W.Frag} {mg : Str → Option Value} {fi : FI} {b : FB} {body : FS} {ts : List Nat} : ∀ E σ H, sT K mg (fFor fi b body) E σ H → tFor (iT K mg fi) (gT K mg ts b) (sT K mg body) E σ H := fun E σ H h => by
  obtain ⟨F, G, m, env, r, rm, re, e, q⟩ := h
  unfold fFor at e
  split at e
  · rename_i items m1 e1
    refine ⟨F, G, m, env, items, m1, rm, re, e1, fun J F1 H1 G1 go1 rm1 wk => ?_⟩
    refine ⟨fun i k σ' H' => ∃ F' G' mm env', Go F1 H1 G1 F' H' G' ∧ Rm K mg F' H' G' mm ∧ Re K mg F' G' σ' env' ∧ k = items.length - i ∧ i ≤ items.length ∧ forL b body (items.drop i) env' mm = .ok r,
      ⟨items.length, F1, G1, m1, env, .refl, rm1, re.go go1, rfl, Nat.zero_le _, e⟩, ?_⟩
    rintro i k σ' H' ⟨F', G', mm, env', go', rm', re', rfl, hi, ef⟩
    obtain ⟨wstop, wgo⟩ := wk F' H' G' mm go'.f go'.g rm' i
    by_cases hlt : i < items.length
    · obtain ⟨jgo, jy⟩ := wgo items[i] (List.getElem?_eq_getElem hlt)
      rw [List.drop_eq_getElem_cons hlt] at ef
      simp only [forL] at ef
      split at ef
      · rename_i env1 eb
        refine .inr ⟨jgo, fun σ2 H2 => ∃ F' G' mm env', Go F1 H1 G1 F' H2 G' ∧ Rm K mg F' H2 G' mm ∧ Re K mg F' G' σ2 env' ∧ forL b body (items.drop (i + 1)) env' mm = .ok r, fun σ2 H2 n2 => ?_, fun x H2 y => ?_⟩
        · obtain ⟨F2, G2, m2, env2, go2, rm2, re2, e2⟩ := n2
          exact ⟨items.length - (i + 1), by omega, F2, G2, m2, env2, go2, rm2, re2, rfl, hlt, e2⟩
        · obtain ⟨F2, go2, rm2, rp2⟩ := jy x H2 y
          refine ⟨F2, G', mm, _, env', env1, rm2, rp2, re'.go go2, eb, fun σ3 re3 _ _ => ?_⟩
          split at ef
          · rename_i env2 m2 ebody
            exact ⟨F2, G', mm, env1, _, rm2, re3, ebody, fun σ4 F4 H4 G4 go4 rm4 re4 => ⟨F4, G4, m2, env2, (go'.trans go2).trans go4, rm4, re4, ef⟩⟩
          · rename_i env2 m2 ebody
            exact ⟨F2, G', mm, env1, _, rm2, re3, ebody, fun σ4 F4 H4 G4 go4 rm4 re4 => ⟨F4, G4, m2, env2, (go'.trans go2).trans go4, rm4, re4, ef⟩⟩
          · rename_i env2 m2 ebody
            cases ef
            exact ⟨F2, G', mm, env1, _, rm2, re3, ebody, fun σ4 F4 H4 G4 go4 rm4 re4 => q σ4 F4 H4 G4 (((go1.trans go').trans go2).trans go4) rm4 re4⟩
          · rename_i dd env2 m2 ebody
            cases ef
            exact ⟨F2, G', mm, env1, _, rm2, re3, ebody, fun σ4 F4 H4 G4 go4 rm4 re4 => q σ4 F4 H4 G4 (((go1.trans go').trans go2).trans go4) rm4 re4⟩
          · cases ef
      · cases ef
    · have ei : i = items.length := by omega
      rw [ei, List.drop_length] at ef
      cases ef
      exact .inl ⟨wstop (by omega), q σ' F' H' G' (go1.trans go') rm' re'⟩
  · cases e
def whileL (t : FT) (body : FS) : Nat → Env → Mem → R (Fl × Env × Mem)
  | 0, _, _ => .bad
  | n + 1, env, m => (match t env m with
    | .ok (true, m1) => (match body env m1 with
      | .ok (.nx, env2, m2) => whileL t body n env2 m2
      | .ok (.ct, env2, m2) => whileL t body n env2 m2
      | .ok (.bk, env2, m2) => .ok (.nx, env2, m2)
      | .ok (.rt d, env2, m2) => .ok (.rt d, env2, m2)
      | .bad => .bad)
    | .ok (false, m1) => .ok (.nx, env, m1)
    | .bad => .bad)
/-- how often a loop may turn: more than any turns -/
def many : Nat := 10000000
def fWhile (t : FT) (body : FS) : FS := fun env m => whileL t body many env m
theorem imp_while {K : PySem.W.Frag} {mg : Str → Option Value} {t : FT} {body : FS} : ∀ E σ H, sT K mg (fWhile t body) E σ H → tWhile (tT K mg t) (sT K mg body) E σ H := fun E σ H h => by
  obtain ⟨F, G, m, env, r, rm, re, e, q⟩ := h
  unfold fWhile at e
  refine ⟨fun k σ' H' => ∃ F' G' mm env', Go F H G F' H' G' ∧ Rm K mg F' H' G' mm ∧ Re K mg F' G' σ' env' ∧ whileL t body k env' mm = .ok r, ⟨many, F, G, m, env, .refl, rm, re, e⟩, ?_⟩
  rintro k σ' H' ⟨F', G', mm, env', go', rm', re', ew⟩
  cases k with
  | zero => cases ew
  | succ k =>
    simp only [whileL] at ew
    split at ew
    · rename_i m1 et
      refine ⟨F', G', mm, env', true, m1, rm', re', et, fun F1 H1 G1 go1 rm1 => iteT ?_⟩
      refine ⟨fun σ2 H2 => ∃ F' G' mm env', Go F H G F' H2 G' ∧ Rm K mg F' H2 G' mm ∧ Re K mg F' G' σ2 env' ∧ whileL t body k env' mm = .ok r, fun σ2 H2 n2 => ⟨k, Nat.lt_succ_self k, n2⟩, ?_⟩
      split at ew
      · rename_i env2 m2 ebody
        exact ⟨F1, G1, m1, env', _, rm1, re'.go go1, ebody, fun σ4 F4 H4 G4 go4 rm4 re4 => ⟨F4, G4, m2, env2, (go'.trans go1).trans go4, rm4, re4, ew⟩⟩
      · rename_i env2 m2 ebody
        exact ⟨F1, G1, m1, env', _, rm1, re'.go go1, ebody, fun σ4 F4 H4 G4 go4 rm4 re4 => ⟨F4, G4, m2, env2, (go'.trans go1).trans go4, rm4, re4, ew⟩⟩
      · rename_i env2 m2 ebody
        cases ew
        exact ⟨F1, G1, m1, env', _, rm1, re'.go go1, ebody, fun σ4 F4 H4 G4 go4 rm4 re4 => q σ4 F4 H4 G4 ((go'.trans go1).trans go4) rm4 re4⟩
      · rename_i dd env2 m2 ebody
        cases ew
        exact ⟨F1, G1, m1, env', _, rm1, re'.go go1, ebody, fun σ4 F4 H4 G4 go4 rm4 re4 => q σ4 F4 H4 G4 ((go'.trans go1).trans go4) rm4 re4⟩
      · cases ew
    · rename_i m1 et
      cases ew
      exact ⟨F', G', mm, env', false, m1, rm', re', et, fun F1 H1 G1 go1 rm1 => iteF (q σ' F1 H1 G1 (go'.trans go1) rm1 (re'.go go1))⟩
    · cases ew

/-! ### comprehensions -/
def wipeE (env : Env) : List Nat → Env
  | [] => env
  | v :: vs => (wipeE env vs).set v none
def compL (b : FB) (t : FT) (fe : FE) (env : Env) : List D → Mem → R (List D × Mem)
  | [], m => .ok ([], m)
  | d :: ds, m => (match b d env with
    | .ok env1 => (match t env1 m with
      | .ok (true, m1) => (match fe env1 m1 with
        | .ok (y, m2) => (match frz1 y m2 with
          | .ok (y', m3) => (match compL b t fe env ds m3 with
            | .ok (ys, m4) => .ok (y' :: ys, m4)
            | .bad => .bad)
          | .bad => .bad)
        | .bad => .bad)
      | .ok (false, m1) => compL b t fe env ds m1
      | .bad => .bad)
    | .bad => .bad)
def fComp (c : Bool) (fi : FI) (b : FB) (t : FT) (fe : FE) (vs : List Nat) : FE := fun env m => match fi env m with
  | .ok (items, m1) => if items.length ≤ sizeLine then (match compL b t fe (wipeE env vs) items m1 with
    | .ok (ys, m2) => .ok (mkL c ys m2)
    | .bad => .bad) else .bad
  | .bad => .bad
def fYes : FT := fun _ m => .ok (true, m)
abbrev STs (X : Cx) (ifs : List Expr) (t : FT) : Prop := PTs X ifs (tT X.K X.mg t)
theorem pts_imp {X : Cx} {ifs : List Expr} {t u : TT} (h : PTs X ifs t) (i : ∀ σ H Q, u σ H Q → t σ H Q) : PTs X ifs u := by
  constructor
  intro pins s σ H Q I q
  exact h.run pins s σ H Q I (i σ H Q q)
theorem sts_nil {X : Cx} : STs X [] fYes := pts_imp pts_nil fun σ H Q h => by
  obtain ⟨F, G, m, env, b, m', rm, re, e, q⟩ := h
  cases e
  exact q F H G .refl rm
theorem sts_one {X : Cx} {c : Expr} {t : FT} (h : ST X c t) : STs X [c] t := pts_one h
section
variable {K : PySem.W.Frag} {mg : Str → Option Value} {F F' H H' : Hp} {G G' : List Addr} {m : Mem}
theorem wipe_at (σ : L2.St) (i : Nat) : ∀ vs : List Nat, (wipe σ vs)[i]? = if i ∈ vs ∧ i < σ.length then some none else σ[i]?
  | [] => by simp [wipe]
  | v :: vs => by
    unfold wipe
    have ih := wipe_at σ i vs
    by_cases hv : v = i
    · subst hv
      by_cases hl : v < σ.length
      · rw [List.getElem?_set_self (by rw [wipe_length]; exact hl), if_pos ⟨List.mem_cons_self, hl⟩]
      · rw [List.getElem?_eq_none (by rw [List.length_set, wipe_length]; omega), if_neg (fun z => hl z.2), List.getElem?_eq_none (by omega)]
    · rw [List.getElem?_set_ne hv, ih]
      by_cases h2 : i ∈ vs ∧ i < σ.length
      · rw [if_pos h2, if_pos ⟨List.mem_cons_of_mem _ h2.1, h2.2⟩]
      · rw [if_neg h2, if_neg (fun z => h2 ⟨(List.mem_cons.mp z.1).resolve_left (Ne.symm hv), z.2⟩)]
theorem wipe_back {σ σ' : L2.St} {ts vs : List Nat} (hl : σ'.length = (wipe σ vs).length) (ho : ∀ i, i ∉ ts → σ'[i]? = (wipe σ vs)[i]?) (hs : ∀ i, i ∈ ts → i ∈ vs) : wipe σ' vs = wipe σ vs := by
  refine List.ext_getElem? fun i => ?_
  rw [wipe_at σ' i vs, wipe_at σ i vs]
  rw [wipe_length] at hl
  by_cases h : i ∈ vs ∧ i < σ.length
  · rw [if_pos h, if_pos ⟨h.1, by rw [hl]; exact h.2⟩]
  · rw [if_neg h, if_neg (by rw [hl]; exact h)]
    by_cases hi : i < σ.length
    · have hn : i ∉ vs := fun z => h ⟨z, hi⟩
      rw [ho i (fun z => hn (hs i z)), wipe_at σ i vs, if_neg h]
    · rw [List.getElem?_eq_none (by omega), List.getElem?_eq_none (by omega)]
theorem Re.wipe {σ : L2.St} {env : Env} (h : Re K mg F G σ env) : ∀ vs : List Nat, Re K mg F G (wipe σ vs) (wipeE env vs)
  | [] => h
  | v :: vs => by
    have ih := Re.wipe h vs
    refine ⟨by show (List.set _ _ _).length = (List.set _ _ _).length; rw [List.length_set, List.length_set]; exact ih.len, fun i d q => ?_⟩
    have q : ((wipeE env vs).set v none)[i]? = some (some d) := q
    show ∃ w, ((L2.wipe σ vs).set v none)[i]? = some (some w) ∧ _
    by_cases hv : v = i
    · subst hv
      by_cases hl : v < (wipeE env vs).length
      · rw [List.getElem?_set_self hl] at q; cases q
      · rw [List.getElem?_eq_none (by rw [List.length_set]; omega)] at q; cases q
    · rw [List.getElem?_set_ne hv] at q ⊢
      exact ih.has i d q
theorem Go.hide {D0 : Addr} {o : HO} (g : Go F H G F' H' G') (h : H D0 = none) : Go F H G F' (upd H' D0 o) G' :=
  ⟨g.f, g.g, fun x u e n => by rw [upd_ne (ne_of_none e h)]; exact g.keep x u e n, g.thin, g.new, fun x u e => by
    obtain ⟨u', e'⟩ := g.there x u e
    exact ⟨u', by rw [upd_ne (ne_of_none e h)]; exact e'⟩⟩
theorem Rm.hide {D0 : Addr} {o : HO} (r : Rm K mg F H G m) (hf : F D0 = none) (hg : D0 ∉ G) : Rm K mg F (upd H D0 o) G m :=
  ⟨r.len, r.inj, fun a u e => by rw [upd_ne (ne_of_none e hf)]; exact r.sub a u e, fun n a c hn hm => by
    have na : a ≠ D0 := fun q => hg (q ▸ List.mem_of_getElem? hn)
    cases r.cell n a c hn hm with
    | lst e1 e2 e3 => exact .lst (by rw [upd_ne na]; exact e1) e2 e3
    | obj e0 e1 e2 e3 => exact .obj e0 (by rw [upd_ne na]; exact e1) e2 e3
    | frz e1 e2 => exact .frz e1 e2⟩
/-- a hidden list comes to be data, or a thing that may change -/
theorem Rm.show' {c : Bool} {F1 H1 : Hp} {G1 : List Addr} {D0 : Addr} {xs : List V} {ds : List D} (r : Rm K mg F H G m) (g : Go F1 H1 G1 F H G) (hD : H1 D0 = none) (hf : F D0 = none) (hg : D0 ∉ G) (hH : H D0 = some (.lst xs)) (q : Rps K mg F G xs ds) :
    ∃ F' G', Go F1 H1 G1 F' H G' ∧ Rm K mg F' H G' (mkL c ds m).2 ∧ Rp K mg F' G' (.ref D0) (mkL c ds m).1 := by
  cases c with
  | false =>
    have ef : Ex F (upd F D0 (.lst xs)) := Ex.new hf
    refine ⟨upd F D0 (.lst xs), G, ⟨g.f.trans ef, g.g, g.keep, fun x o e n z => ?_, g.new, g.there⟩, ⟨r.len, r.inj, fun a u e => ?_, fun n a cc hn hm => ?_⟩, .lst upd_same (q.mono ef (Pre.refl _))⟩
    · rw [upd_ne (ne_of_none e hD)]; exact g.thin x o e n z
    · by_cases z : a = D0
      · subst z; rw [upd_same] at e; rw [← e]; exact hH
      · rw [upd_ne z] at e; exact r.sub a u e
    · have na : a ≠ D0 := fun q => hg (q ▸ List.mem_of_getElem? hn)
      cases r.cell n a cc hn hm with
      | lst e1 e2 e3 => exact .lst e1 (by rw [upd_ne na]; exact e2) (e3.mono ef (Pre.refl _))
      | obj e0 e1 e2 e3 => exact .obj e0 e1 (by rw [upd_ne na]; exact e2) (e3.mono ef (Pre.refl _))
      | frz e1 e2 =>
        obtain ⟨u, e2⟩ := e2
        exact .frz (e1.mono ef (Pre.refl _)) ⟨u, ef a u e2⟩
  | true =>
    refine ⟨F, G ++ [D0], ⟨g.f, g.g.trans (pre_snoc G D0), g.keep, g.thin, fun x z => ?_, g.there⟩, ⟨by show (G ++ [D0]).length = (m ++ [Cell.lst ds]).length; rw [List.length_append, List.length_append, r.len]; rfl, fun i j a hi hj => ?_, r.sub, fun n a cc hn hm => ?_⟩, .loc ?_⟩
    · rcases List.mem_append.mp z with z | z
      · exact g.new x z
      · exact .inr (by rw [List.mem_singleton.mp z]; exact hD)
    · by_cases hi' : i < G.length
      · rw [List.getElem?_append_left hi'] at hi
        by_cases hj' : j < G.length
        · rw [List.getElem?_append_left hj'] at hj
          exact r.inj i j a hi hj
        · rw [List.getElem?_append_right (by omega)] at hj
          obtain ⟨l, rfl⟩ := List.getElem?_eq_some_iff.mp hj
          exact absurd (List.mem_of_getElem? hi) (by simpa using hg)
      · rw [List.getElem?_append_right (by omega)] at hi
        obtain ⟨l, e⟩ := List.getElem?_eq_some_iff.mp hi
        by_cases hj' : j < G.length
        · rw [List.getElem?_append_left hj'] at hj
          have : a = D0 := by rw [← e]; simp
          exact absurd (List.mem_of_getElem? hj) (by rw [this]; exact hg)
        · rw [List.getElem?_append_right (by omega)] at hj
          obtain ⟨l2, e2⟩ := List.getElem?_eq_some_iff.mp hj
          simp at l l2
          omega
    · have hm : (m ++ [Cell.lst ds])[n]? = some cc := hm
      by_cases hn' : n < G.length
      · rw [List.getElem?_append_left hn'] at hn
        rw [List.getElem?_append_left (by rw [← r.len]; exact hn')] at hm
        cases r.cell n a cc hn hm with
        | lst e1 e2 e3 => exact .lst e1 e2 (e3.mono (Ex.refl _) (pre_snoc G D0))
        | obj e0 e1 e2 e3 => exact .obj e0 e1 e2 (e3.mono (Ex.refl _) (pre_snoc G D0))
        | frz e1 e2 => exact .frz (e1.mono (Ex.refl _) (pre_snoc G D0)) e2
      · rw [List.getElem?_append_right (by omega)] at hn
        rw [List.getElem?_append_right (by rw [← r.len]; omega)] at hm
        obtain ⟨l, e⟩ := List.getElem?_eq_some_iff.mp hn
        obtain ⟨l2, e2⟩ := List.getElem?_eq_some_iff.mp hm
        have ea : a = D0 := by rw [← e]; simp
        have ec : cc = .lst ds := by rw [← e2]; simp
        subst ea ec
        exact .lst hH hf (q.mono (Ex.refl _) (pre_snoc G a))
    · rw [List.getElem?_append_right (by rw [r.len]; exact Nat.le_refl _), r.len, Nat.sub_self]
      rfl
end
theorem imp_comp {K : PySem.W.Frag} {mg : Str → Option Value} {c : Bool} {fi : FI} {b : FB} {t : FT} {fe : FE} {ts vs : List Nat} (hts : ∀ i, i ∈ ts → i ∈ vs) : ∀ σ H Q, eT K mg (fComp c fi b t fe vs) σ H Q → tLc (iT K mg fi) (gT K mg ts b) (tT K mg t) (eT K mg fe) vs σ H Q := fun σ H Q h => by
  obtain ⟨F, G, m, env, d, m', rm, re, e, q⟩ := h
  unfold fComp at e
  split at e
  · rename_i items m1 e1
    split at e
    · rename_i hlen
      split at e
      · rename_i ys m2 ec
        have e3 := R.ok.inj e
        refine ⟨F, G, m, env, items, m1, rm, re, e1, fun J F1 H1 G1 go1 rm1 wk D0 hD => ?_⟩
        have w0 := (re.go go1).wipe vs
        have fD : F1 D0 = none := rm1.freshF hD
        have gD : D0 ∉ G1 := rm1.fresh hD
        refine ⟨fun i k H' => ∃ F' G' mm accV accD ys', Go F1 H1 G1 F' H' G' ∧ Rm K mg F' H' G' mm ∧ F' D0 = none ∧ D0 ∉ G' ∧ H' D0 = some (.lst accV) ∧ Rps K mg F' G' accV accD ∧ accD.length ≤ i ∧ k = items.length - i ∧ i ≤ items.length ∧
            compL b t fe (wipeE env vs) (items.drop i) mm = .ok (ys', m2) ∧ accD ++ ys' = ys,
          ⟨items.length, F1, G1, m1, [], [], ys, Go.refl.hide hD, rm1.hide fD gD, fD, gD, upd_same, .nil, Nat.zero_le _, rfl, Nat.zero_le _, ec, rfl⟩, ?_⟩
        rintro i k H' ⟨F', G', mm, accV, accD, ys', go', rm', fD', gD', hD', ra, la, rfl, hi, ecl, ey⟩
        obtain ⟨wstop, wgo⟩ := wk F' H' G' mm go'.f go'.g rm' i
        by_cases hlt : i < items.length
        · obtain ⟨jgo, jy⟩ := wgo items[i] (List.getElem?_eq_getElem hlt)
          rw [List.drop_eq_getElem_cons hlt] at ecl
          simp only [compL] at ecl
          split at ecl
          · rename_i env1 eb
            refine .inr ⟨jgo, fun H2 => ∃ F' G' mm accV accD ys', Go F1 H1 G1 F' H2 G' ∧ Rm K mg F' H2 G' mm ∧ F' D0 = none ∧ D0 ∉ G' ∧ H2 D0 = some (.lst accV) ∧ Rps K mg F' G' accV accD ∧ accD.length ≤ i + 1 ∧
                compL b t fe (wipeE env vs) (items.drop (i + 1)) mm = .ok (ys', m2) ∧ accD ++ ys' = ys, fun H2 n2 => ?_, fun x H2 y => ?_⟩
            · obtain ⟨F2, G2, mm2, av, ad, ys2, a1, a2, a3, a4, a5, a6, a7, a8, a9⟩ := n2
              exact ⟨items.length - (i + 1), by omega, F2, G2, mm2, av, ad, ys2, a1, a2, a3, a4, a5, a6, a7, rfl, hlt, a8, a9⟩
            · obtain ⟨F2, go2, rm2, rp2⟩ := jy x H2 y
              have hD2 : H2 D0 = some (.lst accV) := go2.keep D0 _ hD' gD'
              have fD2 : F2 D0 = none := go2.thin D0 _ hD' gD' fD'
              have re2 : Re K mg F2 G' (wipe σ vs) (wipeE env vs) := (w0.go go').go go2
              refine ⟨F2, G', mm, _, _, env1, rm2, rp2, re2, eb, fun σ3 re3 l3 o3 => ⟨wipe_back l3 o3 hts, ?_⟩⟩
              split at ecl
              · rename_i mt et
                refine ⟨F2, G', mm, env1, true, mt, rm2, re3, et, fun F4 H4 G4 go4 rm4 => iteT ?_⟩
                have hD4 : H4 D0 = some (.lst accV) := go4.keep D0 _ hD2 gD'
                have fD4 : F4 D0 = none := go4.thin D0 _ hD2 gD' fD2
                have gD4 : D0 ∉ G4 := fun z => (go4.new D0 z).elim gD' fun e => by rw [hD2] at e; cases e
                split at ecl
                · rename_i yv m5 ee
                  split at ecl
                  · rename_i yf m6 ez
                    split at ecl
                    · rename_i ys6 m7 er
                      cases ecl
                      refine ⟨F4, G4, mt, env1, yv, m5, rm4, re3.go go4, ee, fun v F5 H5 G5 go5 rm5 rp5 => ?_⟩
                      have hD5 : H5 D0 = some (.lst accV) := go5.keep D0 _ hD4 gD4
                      have fD5 : F5 D0 = none := go5.thin D0 _ hD4 gD4 fD4
                      have gD5 : D0 ∉ G5 := fun z => (go5.new D0 z).elim gD4 fun e => by rw [hD4] at e; cases e
                      obtain ⟨F6, rm6, go6, rp6⟩ := frz1_ok rm5 rp5 ez
                      have fD6 : F6 D0 = none := go6.thin D0 _ hD5 gD5 fD5
                      have all : Go F' H' G' F6 H5 G5 := ((go2.trans go4).trans go5).trans go6
                      refine ⟨accV, hD5, ?_, F6, G5, m6, accV ++ [v], accD ++ [yf], ys6, (go'.trans all).hide hD, rm6.hide fD6 gD5, fD6, gD5, upd_same, (ra.go all).append (.cons rp6 .nil), ?_, er, ?_⟩
                      · rw [ra.length]; omega
                      · rw [List.length_append]; show accD.length + 1 ≤ i + 1; omega
                      · rw [List.append_assoc]; exact ey
                    · cases ecl
                  · cases ecl
                · cases ecl
              · rename_i mt et
                refine ⟨F2, G', mm, env1, false, mt, rm2, re3, et, fun F4 H4 G4 go4 rm4 => iteF ?_⟩
                have hD4 : H4 D0 = some (.lst accV) := go4.keep D0 _ hD2 gD'
                have fD4 : F4 D0 = none := go4.thin D0 _ hD2 gD' fD2
                have gD4 : D0 ∉ G4 := fun z => (go4.new D0 z).elim gD' fun e => by rw [hD2] at e; cases e
                exact ⟨F4, G4, mt, accV, accD, ys', (go'.trans go2).trans go4, rm4, fD4, gD4, hD4, (ra.go go2).go go4, by omega, ecl, ey⟩
              · cases ecl
          · cases ecl
        · have ei : i = items.length := by omega
          rw [ei, List.drop_length] at ecl
          cases ecl
          refine .inl ⟨wstop (by omega), ?_⟩
          rw [List.append_nil] at ey
          subst ey
          obtain ⟨F3, G3, go3, rm3, rp3⟩ := rm'.show' (c := c) go' hD fD' gD' hD' ra
          rw [e3] at rm3 rp3
          exact q _ F3 H' G3 (go1.trans go3) rm3 rp3
      · cases e
    · cases e
  · cases e
section
variable {X : Cx} {elt tg iter : Expr} {ifs : List Expr} {scope : Scope} {pos : Pos} {c : Bool} {fi : FI} {b : FB} {t : FT} {fe : FE} {ts : List Nat}
theorem se_comp (c : Bool) (own : List (Str × Nat)) (hc : X.calm = true) (hN : X.N.Nodup) (hi : SI X tg iter fi) {N : List Str} {sc : Scope} (ok : blkC N sc scope own = true)
    (hg : ∀ (s : Shared) (H : Hp) (C : Addr) (cl : List (Str × Addr)) (fp : List Addr), SG (X.blk s H scope (compEnvC scope cl C X.env) fp) ts tg b) (ht : ∀ (s : Shared) (H : Hp) (C : Addr) (cl : List (Str × Addr)) (fp : List Addr), STs (X.blk s H scope (compEnvC scope cl C X.env) fp) ifs t)
    (he : ∀ (s : Shared) (H : Hp) (C : Addr) (cl : List (Str × Addr)) (fp : List Addr), SE (X.blk s H scope (compEnvC scope cl C X.env) fp) elt fe) (hts : ∀ i, i ∈ ts → i ∈ own.map (·.2)) (hs : ∀ x, foldedSetIterable iter X.env x = pure x := by intro _; rfl) (eN : X.N = N := by rfl) (eS : X.env.scope = sc := by rfl) :
    SE X (.ListComp elt [⟨tg, iter, ifs, 0⟩] scope pos) (fComp c fi b t fe (own.map (·.2))) := se_of (pe_lc hc hN hi (blkOk_by (by rw [eN, eS]; exact ok)) hg ht he hs) (imp_comp hts)

/-! ### statements -/
variable {st : Stmt} {rest : List Stmt} {f g : FS} {e a : Expr} {fa : FE} {x : Str} {i : Nat}
def fNext : FS := fun env m => .ok (.nx, env, m)
def fThen (f g : FS) : FS := fun env m => match f env m with
  | .ok (.nx, env1, m1) => g env1 m1
  | r => r
theorem sss_nil : SSs X [] fNext := sss_of pss_nil fun E σ H h => by
  obtain ⟨F, G, m, env, r, rm, re, e, q⟩ := h
  cases e
  exact q σ F H G .refl rm re
theorem sss_cons (h : SS X st f) (hr : SSs X rest g) : SSs X (st :: rest) (fThen f g) := sss_of (pss_cons h hr) fun E σ H h => by
  obtain ⟨F, G, m, env, r, rm, re, e, q⟩ := h
  unfold fThen at e
  split at e
  · rename_i env1 m1 e1
    exact ⟨F, G, m, env, _, rm, re, e1, fun σ1 F1 H1 G1 go1 rm1 re1 => ⟨F1, G1, m1, env1, r, rm1, re1, e, fun σ2 F2 H2 G2 go2 rm2 re2 => q σ2 F2 H2 G2 (go1.trans go2) rm2 re2⟩⟩
  · rename_i e1
    refine ⟨F, G, m, env, r, rm, re, e, fun σ1 F1 H1 G1 go1 rm1 re1 => ?_⟩
    have := q σ1 F1 H1 G1 go1 rm1 re1
    obtain ⟨fl, env2, m2⟩ := r
    cases fl with
    | nx => exact absurd e (e1 env2 m2)
    | bk => exact this
    | ct => exact this
    | rt d => exact this
theorem sss_one (h : SS X st f) : SSs X [st] f := pss_one h
def fAsg (i : Nat) (fa : FE) : FS := fun env m => match fa env m with
  | .ok (d, m1) => .ok (.nx, env.set i (some d), m1)
  | .bad => .bad
theorem imp_asg {K : PySem.W.Frag} {mg : Str → Option Value} : ∀ E σ H, sT K mg (fAsg i fa) E σ H → tAsg (eT K mg fa) (gName i) E σ H := fun E σ H h => by
  obtain ⟨F, G, m, env, r, rm, re, e, q⟩ := h
  unfold fAsg at e
  split at e
  · rename_i d m1 e1
    cases e
    exact ⟨F, G, m, env, d, m1, rm, re, e1, fun v F1 H1 G1 go1 rm1 rp1 => q _ F1 H1 G1 go1 rm1 ((re.go go1).set i rp1)⟩
  · cases e
theorem ss_asg {pos' : Pos} (hN : X.N.Nodup) (he : SE X e fa) (hi : X.N[i]? = some x := by rfl) (hx : Loc X.env.scope x := by first | exact Or.inl rfl | exact Or.inr rfl) (hs : swapsWith e (some (.Name x pos')) pos.line X.env = pure false := by rfl) (hf : X.fn x = true ∨ X.env.scope.names.lookup x = some .local := by first | exact .inl rfl | exact .inr rfl | assumption) :
    SS X (.Assign [.Name x pos'] e pos) (fAsg i fa) := ss_of (ps_set hN hi hx he hs hf) imp_asg
/-- name = [..] on one line, the name a local -/
theorem ss_asgComp {py spos : Pos} (c : Bool) (own : List (Str × Nat)) (hc : X.calm = true) (hN : X.N.Nodup) (hi : SI X tg iter fi) {N : List Str} {sc : Scope} (ok : blkC N sc scope own = true)
    (hg : ∀ (s : Shared) (H : Hp) (C : Addr) (cl : List (Str × Addr)) (fp : List Addr), SG (X.blk s H scope (compEnvC scope cl C X.env) fp) ts tg b) (ht : ∀ (s : Shared) (H : Hp) (C : Addr) (cl : List (Str × Addr)) (fp : List Addr), STs (X.blk s H scope (compEnvC scope cl C X.env) fp) ifs t)
    (he : ∀ (s : Shared) (H : Hp) (C : Addr) (cl : List (Str × Addr)) (fp : List Addr), SE (X.blk s H scope (compEnvC scope cl C X.env) fp) elt fe) (hts : ∀ i, i ∈ ts → i ∈ own.map (·.2))
    (hsw : swapsWith (.ListComp elt [⟨tg, iter, ifs, 0⟩] scope pos) (some (.Name x py)) spos.line X.env = pure true)
    (hy : X.N[i]? = some x := by rfl) (hyl : X.env.scope.names.lookup x = some .local := by rfl) (hs : ∀ x, foldedSetIterable iter X.env x = pure x := by intro _; rfl) (eN : X.N = N := by rfl) (eS : X.env.scope = sc := by rfl) :
    SS X (.Assign [.Name x py] (.ListComp elt [⟨tg, iter, ifs, 0⟩] scope pos) spos) (fAsg i (fComp c fi b t fe (own.map (·.2)))) :=
  ss_of (ps_setLc hc hN hy hyl hsw hi (blkOk_by (by rw [eN, eS]; exact ok)) hg ht he hs) fun E σ H h => by
    have q := imp_asg E σ H h
    exact imp_comp hts σ H _ q
/-- (a, b, ..) = e -/
def fUnp (b : FB) (fa : FE) : FS := fun env m => match fa env m with
  | .ok (d, m1) => (match b d env with
    | .ok env1 => .ok (.nx, env1, m1)
    | .bad => .bad)
  | .bad => .bad
theorem ss_unp (he : SE X e fa) (hg : SG X ts tg b) (hs : swapsWithSole [tg] e pos.line X.env = pure false := by rfl) (hw : swappedStores [tg] e X.env = pure none := by rfl)
    (h1 : (assignEach [tg] X.env).map (·.2) = [assign tg X.env] := by rfl) : SS X (.Assign [tg] e pos) (fUnp b fa) := ss_of (ps_asg he hg hs hw h1) fun E σ H h => by
  obtain ⟨F, G, m, env, r, rm, re, e, q⟩ := h
  unfold fUnp at e
  split at e
  · rename_i d m1 e1
    split at e
    · rename_i env1 e2
      cases e
      exact ⟨F, G, m, env, d, m1, rm, re, e1, fun v F1 H1 G1 go1 rm1 rp1 => ⟨F1, G1, m1, d, env, env1, rm1, rp1, re.go go1, e2, fun σ' re' _ _ => q σ' F1 H1 G1 go1 rm1 re'⟩⟩
    · cases e
  · cases e
def fPar (i j : Nat) (fr : FA) : FS := fun env m => match fr env m with
  | .ok ([d1, d2], m1) => .ok (.nx, (env.set i (some d1)).set j (some d2), m1)
  | _ => .bad
theorem ss_par {j : Nat} {x y : Str} {a b : Expr} {fr : FA} {px py pt : Pos} {kt k2 pt2} (hc : X.calm = true) (hN : X.N.Nodup) (ha : SA X [a, b] fr)
    (hi : X.N[i]? = some x := by rfl) (hj : X.N[j]? = some y := by rfl) (hij : i ≠ j := by decide)
    (hx : X.env.scope.names.lookup x = some .local := by rfl) (hy : X.env.scope.names.lookup y = some .local := by rfl)
    (hw : swappedStores [.Tuple [.Name x px, .Name y py] kt pt] (.Tuple [a, b] k2 pt2) X.env = pure (some [x, y]) := by rfl)
    (hs : swapsWithSole [.Tuple [.Name x px, .Name y py] kt pt] (.Tuple [a, b] k2 pt2) pos.line X.env = pure false := by rfl) :
    SS X (.Assign [.Tuple [.Name x px, .Name y py] kt pt] (.Tuple [a, b] k2 pt2) pos) (fPar i j fr) := ss_of (ps_par hc hN hi hj hij hx hy ha hw hs) fun E σ H h => by
  obtain ⟨F, G, m, env, r, rm, re, e, q⟩ := h
  unfold fPar at e
  split at e
  · rename_i d1 d2 m1 e1
    cases e
    refine ⟨F, G, m, env, _, _, rm, re, e1, fun vs F1 H1 G1 go1 rm1 r1 => ?_⟩
    cases r1 with
    | cons r1 r2 =>
      cases r2 with
      | cons r2 r3 =>
        cases r3
        exact ⟨_, _, rfl, q _ F1 H1 G1 go1 rm1 (((re.go go1).set i r1).set j r2)⟩
  · cases e
def fPar3 (i j l : Nat) (fr : FA) : FS := fun env m => match fr env m with
  | .ok ([d1, d2, d3], m1) => .ok (.nx, ((env.set i (some d1)).set j (some d2)).set l (some d3), m1)
  | _ => .bad
theorem ss_par3 {j l : Nat} {x y z : Str} {a b c : Expr} {fr : FA} {px py pz pt : Pos} {kt k2 pt2} (hc : X.calm = true) (hN : X.N.Nodup) (ha : SA X [a, b, c] fr)
    (hi : X.N[i]? = some x := by rfl) (hj : X.N[j]? = some y := by rfl) (hl : X.N[l]? = some z := by rfl) (hij : i ≠ j := by decide) (hil : i ≠ l := by decide) (hjl : j ≠ l := by decide)
    (hx : X.env.scope.names.lookup x = some .local := by rfl) (hy : X.env.scope.names.lookup y = some .local := by rfl) (hz : X.env.scope.names.lookup z = some .local := by rfl)
    (hw : swappedStores [.Tuple [.Name x px, .Name y py, .Name z pz] kt pt] (.Tuple [a, b, c] k2 pt2) X.env = pure (some [x, y, z]) := by rfl)
    (hs : swapsWithSole [.Tuple [.Name x px, .Name y py, .Name z pz] kt pt] (.Tuple [a, b, c] k2 pt2) pos.line X.env = pure false := by rfl) :
    SS X (.Assign [.Tuple [.Name x px, .Name y py, .Name z pz] kt pt] (.Tuple [a, b, c] k2 pt2) pos) (fPar3 i j l fr) := ss_of (ps_par3 hc hN hi hj hl hij hil hjl hx hy hz ha hw hs) fun E σ H h => by
  obtain ⟨F, G, m, env, r, rm, re, e, q⟩ := h
  unfold fPar3 at e
  split at e
  · rename_i d1 d2 d3 m1 e1
    cases e
    refine ⟨F, G, m, env, _, _, rm, re, e1, fun vs F1 H1 G1 go1 rm1 r1 => ?_⟩
    cases r1 with
    | cons r1 r2 =>
      cases r2 with
      | cons r2 r3 =>
        cases r3 with
        | cons r3 r4 =>
          cases r4
          exact ⟨_, _, _, rfl, q _ F1 H1 G1 go1 rm1 ((((re.go go1).set i r1).set j r2).set l r3)⟩
  · cases e
/-- name op= e, of whole numbers -/
def fAug (i : Nat) (g : Int → Int → Int) (fa : FE) : FS := fun env m => match env[i]? with
  | some (some (.int u)) => (match fa env m with
    | .ok (.int v, m1) => .ok (.nx, env.set i (some (.int (g u v))), m1)
    | _ => .bad)
  | _ => .bad
theorem ss_aug {op : Operator} {g : Int → Int → Int} {pos' : Pos} (hN : X.N.Nodup) (he : SE X e fa) (ho : PIp X op (ipI g)) (hi : X.N[i]? = some x := by rfl) (hx : Loc X.env.scope x := by first | exact Or.inl rfl | exact Or.inr rfl)
    (hf : X.fn x = true ∨ X.env.scope.names.lookup x = some .local := by first | exact .inl rfl | exact .inr rfl | assumption) : SS X (.AugAssign (.Name x pos') op e pos) (fAug i g fa) := ss_of (ps_aug hN hi hx he ho hf) fun E σ H h => by
  obtain ⟨F, G, m, env, r, rm, re, e, q⟩ := h
  unfold fAug at e
  split at e
  · rename_i u hu
    split at e
    · rename_i v m1 e1
      cases e
      obtain ⟨w, hw, rw'⟩ := re.has i _ hu
      cases rw'
      refine ⟨_, hw, F, G, m, env, _, _, rm, re, e1, fun v' F1 H1 G1 go1 rm1 rp1 => ?_⟩
      cases rp1
      exact ⟨u, v, rfl, rfl, q _ F1 H1 G1 go1 rm1 ((re.go go1).set i (.int _))⟩
    · cases e
  · cases e
def fDrop (fa : FE) : FS := fun env m => match fa env m with
  | .ok (_, m1) => .ok (.nx, env, m1)
  | .bad => .bad
theorem ss_expr (he : SE X e fa) (hs : swapsWith e none pos.line X.env = pure false := by rfl) : SS X (.Expr e pos) (fDrop fa) := ss_of (ps_expr he hs) fun E σ H h => by
  obtain ⟨F, G, m, env, r, rm, re, e, q⟩ := h
  unfold fDrop at e
  split at e
  · rename_i d m1 e1
    cases e
    exact ⟨F, G, m, env, d, m1, rm, re, e1, fun v F1 H1 G1 go1 rm1 rp1 => q σ F1 H1 G1 go1 rm1 (re.go go1)⟩
  · cases e
def fRet (fa : FE) : FS := fun env m => match fa env m with
  | .ok (d, m1) => .ok (.rt d, env, m1)
  | .bad => .bad
theorem ss_ret (he : SE X e fa) : SS X (.Return (some e) pos) (fRet fa) := ss_of (ps_ret he) fun E σ H h => by
  obtain ⟨F, G, m, env, r, rm, re, e, q⟩ := h
  unfold fRet at e
  split at e
  · rename_i d m1 e1
    cases e
    exact ⟨F, G, m, env, d, m1, rm, re, e1, fun v F1 H1 G1 go1 rm1 rp1 => q σ F1 H1 G1 go1 rm1 (re.go go1) v rp1⟩
  · cases e
def fRetN : FS := fun env m => .ok (.rt .non, env, m)
theorem ss_retN : SS X (.Return none pos) fRetN := ss_of ps_retN fun E σ H h => by
  obtain ⟨F, G, m, env, r, rm, re, e, q⟩ := h
  cases e
  exact q σ F H G .refl rm re .non .non
def fIfS (t : FT) (f g : FS) : FS := fun env m => match t env m with
  | .ok (true, m1) => f env m1
  | .ok (false, m1) => g env m1
  | .bad => .bad
theorem ss_if {c : Expr} {sa sb : List Stmt} (hc : ST X c t) (ha : SSs X sa f) (hb : SSs X sb g) : SS X (.If c sa sb pos) (fIfS t f g) := ss_of (ps_if hc ha hb) fun E σ H h => by
  obtain ⟨F, G, m, env, r, rm, re, e, q⟩ := h
  unfold fIfS at e
  split at e
  · rename_i m1 e1
    exact ⟨F, G, m, env, _, m1, rm, re, e1, fun F1 H1 G1 go1 rm1 => iteT ⟨F1, G1, m1, env, r, rm1, re.go go1, e, fun σ2 F2 H2 G2 go2 rm2 re2 => q σ2 F2 H2 G2 (go1.trans go2) rm2 re2⟩⟩
  · rename_i m1 e1
    exact ⟨F, G, m, env, _, m1, rm, re, e1, fun F1 H1 G1 go1 rm1 => iteF ⟨F1, G1, m1, env, r, rm1, re.go go1, e, fun σ2 F2 H2 G2 go2 rm2 re2 => q σ2 F2 H2 G2 (go1.trans go2) rm2 re2⟩⟩
  · cases e
theorem ss_pass : SS X (.Pass pos) fNext := ss_of ps_pass fun E σ H h => by
  obtain ⟨F, G, m, env, r, rm, re, e, q⟩ := h
  cases e
  exact q σ F H G .refl rm re
def fBreak : FS := fun env m => .ok (.bk, env, m)
theorem ss_break : SS X (.Break pos) fBreak := ss_of ps_break fun E σ H h => by
  obtain ⟨F, G, m, env, r, rm, re, e, q⟩ := h
  cases e
  exact q σ F H G .refl rm re
def fCont : FS := fun env m => .ok (.ct, env, m)
theorem ss_cont : SS X (.Continue pos) fCont := ss_of ps_continue fun E σ H h => by
  obtain ⟨F, G, m, env, r, rm, re, e, q⟩ := h
  cases e
  exact q σ F H G .refl rm re
theorem ss_for {body : List Stmt} (hp : PassesOwn (model X.prog X.w) X.A X.env X.xe) (hc : X.calm = true) (hi : SI X tg iter fi) (hg : SG X ts tg b) (hb : SSs X body f)
    (hs : ∀ x, foldedSetIterable iter X.env x = pure x := by intro _; rfl) : SS X (.For tg iter body [] pos) (fFor fi b f) := ss_of (ps_for hp hc hi hg hb hs) imp_for
theorem ss_while {c : Expr} {body : List Stmt} (hp : PassesOwn (model X.prog X.w) X.A X.env X.xe) (hc : ST X c t) (hb : SSs X body f) : SS X (.While c body [] pos) (fWhile t f) := ss_of (ps_while hp hc hb) imp_while

/-! ### lists that change -/
/-- the live list at a place -/
def live (m : Mem) : D → Option (Nat × List D)
  | .loc n => (match m[n]? with
    | some (.lst ds) => some (n, ds)
    | _ => none)
  | _ => none
theorem live_at {K : PySem.W.Frag} {mg : Str → Option Value} {F H : Hp} {G : List Addr} {m : Mem} {v : V} {d : D} {n : Nat} {ds : List D} (rm : Rm K mg F H G m) (r : Rp K mg F G v d) (h : live m d = some (n, ds)) :
    ∃ a xs, v = .ref a ∧ G[n]? = some a ∧ m[n]? = some (.lst ds) ∧ H a = some (.lst xs) ∧ Rps K mg F G xs ds := by
  cases r with
  | @loc a k e =>
    simp only [live] at h
    split at h
    · rename_i ds' hm
      cases h
      cases rm.cell n a _ e hm with
      | lst e1 e2 e3 => exact ⟨a, _, rfl, e, hm, e1, e3⟩
    · cases h
  | _ => cases h
/-- x.append(y) -/
def fAppend (fo fe : FE) : FE := fun env m => match fo env m with
  | .ok (o, m1) => if (live m1 o).isSome then (match fe env m1 with
    | .ok (y, m2) => (match frz1 y m2 with
      | .ok (y', m3) => (match live m3 o with
        | some (n, ds) => if ds.length < sizeLine then .ok (.non, m3.set n (.lst (ds ++ [y']))) else .bad
        | none => .bad)
      | .bad => .bad)
    | .bad => .bad) else .bad
  | .bad => .bad
theorem live_ty {K : PySem.W.Frag} {mg : Str → Option Value} {F H : Hp} {G : List Addr} {m : Mem} {v : V} {d : D} (rm : Rm K mg F H G m) (r : Rp K mg F G v d) (h : (live m d).isSome = true) : tyV K "list" v H := by
  obtain ⟨⟨n, ds⟩, e⟩ := Option.isSome_iff_exists.mp h
  obtain ⟨a, xs, rfl, _, _, hH, _⟩ := live_at rm r e
  exact .inl ⟨rfl, xs, SqL.of hH⟩
variable {o : Expr} {fo : FE} {apos : Pos}
theorem se_append (ho : SE X o fo) (he : SE X e fa)
    (hbase : attributeBase o "append" X.env (eval o X.env) = eval o X.env := by rfl)
    (hfew : ((backTo pos (starEach [e] X.env)).all (fun x => !x.1) && (backToKw pos (keywordEach [] X.env)).all (fun x => x.1.isSome)
      && decide ([e].length + ([] : List Keyword).length + (if ([] : List Keyword).isEmpty then 0 else 1) < 30)) = true := by rfl)
    (hline : (apos.endLine == pos.line) = true := by rfl) (hs : starEach [e] X.env = (false, eval e X.env) :: starEach [] X.env := by rfl) (hplain : (backTo pos (starEach [] X.env)).any (·.1) = false := by rfl) :
    SE X (.Call (.Attribute o "append" apos) [e] [] pos) (fAppend fo fa) :=
  se_of (pe_bm PySem.F.plainAttrs_list PySem.F.slot_list_append PySem.F.type_list_append mt_append ho (pa_cons he pa_nil hs) hbase hfew hline hs hplain) fun σ H Q h => by
    obtain ⟨F, G, m, env, d, m', rm, re, e, q⟩ := h
    unfold fAppend at e
    split at e
    · rename_i od m1 e1
      split at e
      · rename_i h1
        split at e
        · rename_i y m2 e2
          split at e
          · rename_i y' m3 e3
            split at e
            · rename_i n ds hl
              split at e
              · rename_i hz
                cases e
                refine ⟨F, G, m, env, _, m1, rm, re, e1, fun v F1 H1 G1 go1 rm1 rp1 => ⟨live_ty rm1 rp1 h1, F1, G1, m1, env, y, m2, rm1, re.go go1, e2, fun w F2 H2 G2 go2 rm2 rp2 => ?_⟩⟩
                obtain ⟨F3, rm3, go3, rp3⟩ := frz1_ok rm2 rp2 e3
                obtain ⟨a, xs, rfl, hg, hm, hH, r⟩ := live_at rm3 ((rp1.go go2).go go3) hl
                refine ⟨a, xs, w, rfl, rfl, hH, by rw [r.length]; exact hz, ?_⟩
                obtain ⟨rm4, go4⟩ := rm3.put (ds' := ds ++ [y']) hg hm (r.append (.cons rp3 .nil))
                exact q .non F3 _ G2 (((go1.trans go2).trans go3).trans go4) rm4 .non
              · cases e
            · cases e
          · cases e
        · cases e
      · cases e
    · cases e
/-- x.pop() -/
def fPop (fo : FE) : FE := fun env m => match fo env m with
  | .ok (o, m1) => (match live m1 o with
    | some (n, ds) => (match ds[ds.length - 1]? with
      | some y => .ok (y, m1.set n (.lst ds.dropLast))
      | none => .bad)
    | none => .bad)
  | .bad => .bad
theorem se_pop (ho : SE X o fo) (hbase : attributeBase o "pop" X.env (eval o X.env) = eval o X.env := by rfl) (hline : (apos.endLine == pos.line) = true := by rfl) :
    SE X (.Call (.Attribute o "pop" apos) [] [] pos) (fPop fo) :=
  se_of (pe_bm0 PySem.F.plainAttrs_list PySem.F.slot_list_pop PySem.F.type_list_pop mt_pop ho hbase hline) fun σ H Q h => by
    obtain ⟨F, G, m, env, d, m', rm, re, e, q⟩ := h
    unfold fPop at e
    split at e
    · rename_i od m1 e1
      split at e
      · rename_i n ds hl
        split at e
        · rename_i y hy
          cases e
          refine ⟨F, G, m, env, _, m1, rm, re, e1, fun v F1 H1 G1 go1 rm1 rp1 => ⟨live_ty rm1 rp1 (by rw [hl]; rfl), ?_⟩⟩
          obtain ⟨a, xs, rfl, hg, hm, hH, r⟩ := live_at rm1 rp1 hl
          obtain ⟨w, hw, rw'⟩ := r.get hy
          refine ⟨a, xs, w, rfl, rfl, hH, by rw [r.length]; exact hw, ?_⟩
          obtain ⟨rm4, go4⟩ := rm1.put (ds' := ds.dropLast) hg hm r.dropLast
          exact q w F1 _ G1 (go1.trans go4) rm4 (rw'.go go4)
        · cases e
      · cases e
    · cases e
/-- x.pop(i) -/
def fPopAt (fo fe : FE) : FE := fun env m => match fo env m with
  | .ok (o, m1) => if (live m1 o).isSome then (match fe env m1 with
    | .ok (.int i, m2) => (match live m2 o with
      | some (n, ds) => if -(2 ^ 62) ≤ i ∧ i < 2 ^ 62 then (match ixN ds.length i with
        | some k => (match ds[k]? with
          | some y => .ok (y, m2.set n (.lst (ds.eraseIdx k)))
          | none => .bad)
        | none => .bad) else .bad
      | none => .bad)
    | _ => .bad) else .bad
  | .bad => .bad
theorem se_popAt (ho : SE X o fo) (he : SE X e fa)
    (hbase : attributeBase o "pop" X.env (eval o X.env) = eval o X.env := by rfl)
    (hfew : ((backTo pos (starEach [e] X.env)).all (fun x => !x.1) && (backToKw pos (keywordEach [] X.env)).all (fun x => x.1.isSome)
      && decide ([e].length + ([] : List Keyword).length + (if ([] : List Keyword).isEmpty then 0 else 1) < 30)) = true := by rfl)
    (hline : (apos.endLine == pos.line) = true := by rfl) (hs : starEach [e] X.env = (false, eval e X.env) :: starEach [] X.env := by rfl) (hplain : (backTo pos (starEach [] X.env)).any (·.1) = false := by rfl) :
    SE X (.Call (.Attribute o "pop" apos) [e] [] pos) (fPopAt fo fa) :=
  se_of (pe_bm PySem.F.plainAttrs_list PySem.F.slot_list_pop PySem.F.type_list_pop mt_popAt ho (pa_cons he pa_nil hs) hbase hfew hline hs hplain) fun σ H Q h => by
    obtain ⟨F, G, m, env, d, m', rm, re, e, q⟩ := h
    unfold fPopAt at e
    split at e
    · rename_i od m1 e1
      split at e
      · rename_i h1
        split at e
        · rename_i i m2 e2
          split at e
          · rename_i n ds hl
            split at e
            · rename_i hi
              split at e
              · rename_i k hk
                split at e
                · rename_i y hy
                  cases e
                  refine ⟨F, G, m, env, _, m1, rm, re, e1, fun v F1 H1 G1 go1 rm1 rp1 => ⟨live_ty rm1 rp1 h1, F1, G1, m1, env, _, m2, rm1, re.go go1, e2, fun w F2 H2 G2 go2 rm2 rp2 => ?_⟩⟩
                  cases rp2
                  obtain ⟨a, xs, rfl, hg, hm, hH, r⟩ := live_at rm2 (rp1.go go2) hl
                  obtain ⟨w, hw, rw'⟩ := r.get hy
                  refine ⟨a, xs, i, k, w, rfl, rfl, hH, by omega, by omega, by rw [r.length]; exact (ixN_seq hk).1, hw, ?_⟩
                  obtain ⟨rm4, go4⟩ := rm2.put (ds' := ds.eraseIdx k) hg hm (r.erase k)
                  exact q w F2 _ G2 ((go1.trans go2).trans go4) rm4 (rw'.go go4)
                · cases e
              · cases e
            · cases e
          · cases e
        · cases e
      · cases e
    · cases e
/-- x[i] = y -/
def fSetIx (fo fi fe : FE) : FS := fun env m => match fe env m with
  | .ok (y, m1) => (match frz1 y m1 with
    | .ok (y', m2) => (match fo env m2 with
      | .ok (o, m3) => (match fi env m3 with
        | .ok (.int i, m4) => (match live m4 o with
          | some (n, ds) => (match ixN ds.length i with
            | some k => .ok (.nx, env, m4.set n (.lst (ds.set k y')))
            | none => .bad)
          | none => .bad)
        | _ => .bad)
      | .bad => .bad)
    | .bad => .bad)
  | .bad => .bad
/-- the same, what is stored as it is (a whole number, say) -/
def fSetIxR (fo fi fe : FE) : FS := fun env m => match fe env m with
  | .ok (y, m1) => (match fo env m1 with
    | .ok (o, m3) => (match fi env m3 with
      | .ok (.int i, m4) => (match live m4 o with
        | some (n, ds) => (match ixN ds.length i with
          | some k => .ok (.nx, env, m4.set n (.lst (ds.set k y)))
          | none => .bad)
        | none => .bad)
      | _ => .bad)
    | .bad => .bad)
  | .bad => .bad
theorem ss_setIx {i : Expr} {fi' : FE} {spos : Pos} (he : SE X e fa) (ho : SE X o fo) (hi : SE X i fi')
    (ha : ∀ v, assign (.Subscript o i spos) X.env v = (do
      let ov ← holding [v] (eval o X.env)
      let iv ← holding [v, ov] (eval i X.env)
      standAt spos
      holding [v, ov, iv] (setItem ov iv v)
      release [v, ov, iv] []) := by intro _; rfl)
    (hs : swapsWithSole [.Subscript o i spos] e pos.line X.env = pure false := by rfl) (hw : swappedStores [.Subscript o i spos] e X.env = pure none := by rfl)
    (h1 : (assignEach [.Subscript o i spos] X.env).map (·.2) = [assign (.Subscript o i spos) X.env] := by rfl) : SS X (.Assign [.Subscript o i spos] e pos) (fSetIxR fo fi' fa) :=
  ss_of (ps_asg he (pg_sub ho hi set_list ha) hs hw h1) fun E σ H h => by
    obtain ⟨F, G, m, env, r, rm, re, e, q⟩ := h
    unfold fSetIxR at e
    split at e
    · rename_i y m1 e1
      split at e
      · rename_i od m3 e3
        split at e
        · rename_i ii m4 e4
          split at e
          · rename_i n ds hl
            split at e
            · rename_i k hk
              cases e
              refine ⟨F, G, m, env, y, m1, rm, re, e1, fun v F1 H1 G1 go1 rm1 rp1 => ⟨F1, G1, m1, env, od, m3, rm1, re.go go1, e3, fun ov F3 H3 G3 go3 rm3 rp3 => ⟨F3, G3, m3, env, _, m4, rm3, (re.go go1).go go3, e4, fun iv F4 H4 G4 go4 rm4 rp4 => ?_⟩⟩⟩
              cases rp4
              obtain ⟨a, xs, rfl, hg, hm, hH, r⟩ := live_at rm4 (rp3.go go4) hl
              refine ⟨a, xs, ii, k, rfl, rfl, hH, by rw [r.length]; exact hk, ?_⟩
              obtain ⟨rm5, go5⟩ := rm4.put (ds' := ds.set k y) hg hm (r.set ((rp1.go go3).go go4) k)
              exact q σ F4 _ G4 (((go1.trans go3).trans go4).trans go5) rm5 (((re.go go1).go go3).go go4 |>.go go5)
            · cases e
          · cases e
        · cases e
      · cases e
    · cases e
end
end Sm


set_option Elab.async false
set_option linter.all false
set_option maxRecDepth 100000
set_option maxHeartbeats 2000000
/-! Sem5: and, or, not as values; a list turned round; is True; a def that tells nothing. -/
namespace Sm
open PySem PySem.Spec PyProof.Rows L2
def fAndV (fa fb : FE) : FE := fun env m => match fa env m with
  | .ok (.bl true, m1) => fb env m1
  | .ok (.bl false, m1) => .ok (.bl false, m1)
  | _ => .bad
def fOrV (fa fb : FE) : FE := fun env m => match fa env m with
  | .ok (.bl true, m1) => .ok (.bl true, m1)
  | .ok (.bl false, m1) => fb env m1
  | _ => .bad
def fNotV (fa : FE) : FE := fun env m => match fa env m with
  | .ok (.bl b, m1) => .ok (.bl (!b), m1)
  | _ => .bad
section
variable {X : Cx} {a b : Expr} {rest : List Expr} {fa fb : FE} {pos : Pos}
theorem se_one {op} (h : SE X a fa) : SE X (.BoolOp op [a] pos) fa := pe_one h
theorem se_and (ha : SE X a fa) (hb : SE X (.BoolOp .And (b :: rest) pos) fb) : SE X (.BoolOp .And (a :: b :: rest) pos) (fAndV fa fb) := se_of (pe_and ha hb) fun σ H Q h => by
  obtain ⟨F, G, m, env, d, m', rm, re, e, q⟩ := h
  unfold fAndV at e
  split at e
  · rename_i m1 e1
    refine ⟨F, G, m, env, _, _, rm, re, e1, fun v F1 H1 G1 go1 rm1 rp1 => ?_⟩
    cases rp1
    exact ⟨true, rfl, iteT ⟨F1, G1, m1, env, d, m', rm1, re.go go1, e, fun v F2 H2 G2 go2 rm2 => q v F2 H2 G2 (go1.trans go2) rm2⟩⟩
  · rename_i m1 e1
    cases e
    refine ⟨F, G, m, env, _, _, rm, re, e1, fun v F1 H1 G1 go1 rm1 rp1 => ?_⟩
    cases rp1
    exact ⟨false, rfl, iteF (q _ F1 H1 G1 go1 rm1 (.bl false))⟩
  · cases e
theorem se_or (ha : SE X a fa) (hb : SE X (.BoolOp .Or (b :: rest) pos) fb) : SE X (.BoolOp .Or (a :: b :: rest) pos) (fOrV fa fb) := se_of (pe_or ha hb) fun σ H Q h => by
  obtain ⟨F, G, m, env, d, m', rm, re, e, q⟩ := h
  unfold fOrV at e
  split at e
  · rename_i m1 e1
    cases e
    refine ⟨F, G, m, env, _, _, rm, re, e1, fun v F1 H1 G1 go1 rm1 rp1 => ?_⟩
    cases rp1
    exact ⟨true, rfl, iteT (q _ F1 H1 G1 go1 rm1 (.bl true))⟩
  · rename_i m1 e1
    refine ⟨F, G, m, env, _, _, rm, re, e1, fun v F1 H1 G1 go1 rm1 rp1 => ?_⟩
    cases rp1
    exact ⟨false, rfl, iteF ⟨F1, G1, m1, env, d, m', rm1, re.go go1, e, fun v F2 H2 G2 go2 rm2 => q v F2 H2 G2 (go1.trans go2) rm2⟩⟩
  · cases e
theorem se_not (ha : SE X a fa) : SE X (.UnaryOp .Not a pos) (fNotV fa) := se_of (pe_not ha) fun σ H Q h => by
  obtain ⟨F, G, m, env, d, m', rm, re, e, q⟩ := h
  unfold fNotV at e
  split at e
  · rename_i c m1 e1
    cases e
    refine ⟨F, G, m, env, _, _, rm, re, e1, fun v F1 H1 G1 go1 rm1 rp1 => ?_⟩
    cases rp1
    exact ⟨c, rfl, q _ F1 H1 G1 go1 rm1 (.bl _)⟩
  · cases e
def fRev (c : Bool) (fa : FE) : FE := fun env m => match fa env m with
  | .ok (x, m1) => gRev c x m1
  | .bad => .bad
theorem se_rev (c : Bool) {k : Nat} {p1 p2 p3 : Pos} (ha : SE X a fa) : SE X (.Subscript a (.Slice none none (some (.UnaryOp .USub (.Constant (.int 1) k p1) p2)) p3) pos) (fRev c fa) := se_of (pe_revL ha) fun σ H Q h => by
  obtain ⟨F, G, m, env, d, m', rm, re, e, q⟩ := h
  unfold fRev at e
  split at e
  · rename_i x m1 e1
    unfold gRev at e
    split at e
    · rename_i ds hds
      have e3 := R.ok.inj e
      refine ⟨F, G, m, env, x, m1, rm, re, e1, fun v F1 H1 G1 go1 rm1 rp1 => ?_⟩
      obtain ⟨a, xs, rfl, hs, r⟩ := seqR_at rm1 rp1 hds
      refine ⟨_, _, rfl, hs, fresh_lst (c := c) rm1 r.reverse fun v F' H' G' go rm' r' => ?_⟩
      rw [e3] at rm' r'
      exact q v F' H' G' (go1.trans go) rm' r'
    · cases e
  · cases e
end
/-- x is True, x is False: of anything that is known not to be one, too -/
def gIsB (neg : Bool) : D → D → Mem → R (D × Mem)
  | .bl a, .bl b, m => .ok (.bl (if neg then !decide (a = b) else decide (a = b)), m)
  | .int _, .bl _, m => .ok (.bl neg, m)
  | .str _, .bl _, m => .ok (.bl neg, m)
  | .non, .bl _, m => .ok (.bl neg, m)
  | .tup _, .bl _, m => .ok (.bl neg, m)
  | .lst _, .bl _, m => .ok (.bl neg, m)
  | _, _, _ => .bad
/-- is, of any value and a truth value -/
theorem op_isX {X : Cx} : OpR X (compareOp .Is) (fun x y H Q => ∃ b : Bool, y = .bl b ∧ Q (.bl (decide (x = .bl b))) H) := by
  intro pins s σ H x y v u Q I rx ry h
  obtain ⟨b, rfl, q⟩ := h
  cases (show u = Value.bool b from ry)
  by_cases e : x = .bl b
  · subst e
    cases (show v = Value.bool b from rx)
    exact wpAny_is_self rfl ⟨.bl true, H, I, rfl, by simpa using q⟩
  · have q' : Q (.bl false) H := by rw [decide_eq_false e] at q; exact q
    cases x with
    | bl a =>
      cases (show v = Value.bool a from rx)
      exact wpAny_is_other rfl (fun z => e (by rw [Value.bool.inj z])) ⟨.bl false, H, I, rfl, q'⟩
    | non => cases (show v = Value.none from rx); exact wpAny_is_other rfl (fun z => nomatch z) ⟨.bl false, H, I, rfl, q'⟩
    | int i => obtain ⟨t, rfl⟩ := (show ∃ t, v = Value.int i t from rx); exact wpAny_is_other rfl (fun z => nomatch z) ⟨.bl false, H, I, rfl, q'⟩
    | str i => obtain ⟨t, rfl⟩ := (show ∃ t, v = Value.str i t from rx); exact wpAny_is_other rfl (fun z => nomatch z) ⟨.bl false, H, I, rfl, q'⟩
    | byt i => obtain ⟨t, rfl⟩ := (show ∃ t, v = Value.bytes i t from rx); exact wpAny_is_other rfl (fun z => nomatch z) ⟨.bl false, H, I, rfl, q'⟩
    | flt i => obtain ⟨t, rfl⟩ := (show ∃ t, v = Value.float i t from rx); exact wpAny_is_other rfl (fun z => nomatch z) ⟨.bl false, H, I, rfl, q'⟩
    | ref a => cases (show v = Value.ref a from rx); exact wpAny_is_other rfl (fun z => nomatch z) ⟨.bl false, H, I, rfl, q'⟩
    | ty a => cases (show v = Value.type a from rx); exact wpAny_is_other rfl (fun z => nomatch z) ⟨.bl false, H, I, rfl, q'⟩
theorem op2_isX {K : PySem.W.Frag} {mg : Str → Option Value} : Op2 K mg (fun x y H Q => ∃ b : Bool, y = .bl b ∧ Q (.bl (decide (x = .bl b))) H) (gIsB false) := by
  intro F H G m x y dx dy d m' rm rx ry e Q q
  unfold gIsB at e
  split at e
  · cases rx; cases ry; cases e
    refine ⟨_, rfl, ?_⟩
    rename_i a b
    have : decide (V.bl a = V.bl b) = decide (a = b) := by simp
    rw [this]
    exact q _ F H G .refl rm (.bl _)
  · cases rx; cases ry; cases e
    exact ⟨_, rfl, by rw [decide_eq_false (fun z => nomatch z)]; exact q _ F H G .refl rm (.bl _)⟩
  · cases rx; cases ry; cases e
    exact ⟨_, rfl, by rw [decide_eq_false (fun z => nomatch z)]; exact q _ F H G .refl rm (.bl _)⟩
  · cases rx; cases ry; cases e
    exact ⟨_, rfl, by rw [decide_eq_false (fun z => nomatch z)]; exact q _ F H G .refl rm (.bl _)⟩
  · cases rx; cases ry; cases e
    exact ⟨_, rfl, by rw [decide_eq_false (fun z => nomatch z)]; exact q _ F H G .refl rm (.bl _)⟩
  · cases rx; cases ry; cases e
    exact ⟨_, rfl, by rw [decide_eq_false (fun z => nomatch z)]; exact q _ F H G .refl rm (.bl _)⟩
  · cases e
theorem def_bad {P : Program} {w : World} {K : PySem.W.Frag} {mg : Str → Option Value} {base : Heap} {k : Nat} {x qual : Str} {st : Stmt} {ps : List Str} (T : Txt K mg x qual st ps) : Def P w K mg base k x st ps (fun _ _ => .bad) := by
  obtain ⟨f, fd, a, b, c⟩ := T.ex
  refine ⟨qual, f, fd, a, b, c, ⟨fun vs H Q E q => ?_, fun A outer s H args us vs Q E _ _ _ _ q => ?_⟩⟩
  · obtain ⟨F, G, m, ds, d, m', _, _, _, e, _⟩ := q
    cases e
  · obtain ⟨F, G, m, ds, d, m', _, _, _, e, _⟩ := q
    cases e

/-! ### two clauses -/
def comp2L (b : FB) (t : FT) (fi1 : FI) (b1 : FB) (t1 : FT) (fe : FE) (vs1 : List Nat) (env : Env) : List D → Mem → R (List D × Mem)
  | [], m => .ok ([], m)
  | d :: ds, m => (match b d env with
    | .ok env1 => (match t env1 m with
      | .ok (true, m1) => (match fi1 env1 m1 with
        | .ok (items1, m2) => (match compL b1 t1 fe (wipeE env1 vs1) items1 m2 with
          | .ok (ys1, m3) => (match comp2L b t fi1 b1 t1 fe vs1 env ds m3 with
            | .ok (ys2, m4) => .ok (ys1 ++ ys2, m4)
            | .bad => .bad)
          | .bad => .bad)
        | .bad => .bad)
      | .ok (false, m1) => comp2L b t fi1 b1 t1 fe vs1 env ds m1
      | .bad => .bad)
    | .bad => .bad)
def fComp2 (c : Bool) (fi : FI) (b : FB) (t : FT) (fi1 : FI) (b1 : FB) (t1 : FT) (fe : FE) (vs vs1 : List Nat) : FE := fun env m => match fi env m with
  | .ok (items, m1) => (match comp2L b t fi1 b1 t1 fe vs1 (wipeE env vs) items m1 with
    | .ok (ys, m2) => if ys.length ≤ sizeLine then .ok (mkL c ys m2) else .bad
    | .bad => .bad)
  | .bad => .bad
theorem imp_comp2 {K : PySem.W.Frag} {mg : Str → Option Value} {c : Bool} {fi fi1 : FI} {b b1 : FB} {t t1 : FT} {fe : FE} {ts ts1 vs vs1 : List Nat} (hts : ∀ i, i ∈ ts → i ∈ vs) (hts1 : ∀ i, i ∈ ts1 → i ∈ vs1) :
    ∀ σ H Q, eT K mg (fComp2 c fi b t fi1 b1 t1 fe vs vs1) σ H Q → tLc2 (iT K mg fi) (gT K mg ts b) (tT K mg t) (iT K mg fi1) (gT K mg ts1 b1) (tT K mg t1) (eT K mg fe) vs vs1 σ H Q := fun σ H Q h => by
  obtain ⟨F, G, m, env, d, m', rm, re, e, q⟩ := h
  unfold fComp2 at e
  split at e
  · rename_i items m1 e1
    split at e
    · rename_i ys mE ec
      split at e
      · rename_i hlen
        have e3 := R.ok.inj e
        refine ⟨F, G, m, env, items, m1, rm, re, e1, fun J F1 H1 G1 go1 rm1 wk D0 hD => ?_⟩
        have w0 := (re.go go1).wipe vs
        have fD : F1 D0 = none := rm1.freshF hD
        have gD : D0 ∉ G1 := rm1.fresh hD
        refine ⟨fun i k H' => ∃ F' G' mm accV accD ys', Go F1 H1 G1 F' H' G' ∧ Rm K mg F' H' G' mm ∧ F' D0 = none ∧ D0 ∉ G' ∧ H' D0 = some (.lst accV) ∧ Rps K mg F' G' accV accD ∧ k = items.length - i ∧ i ≤ items.length ∧
            comp2L b t fi1 b1 t1 fe vs1 (wipeE env vs) (items.drop i) mm = .ok (ys', mE) ∧ accD ++ ys' = ys,
          ⟨items.length, F1, G1, m1, [], [], ys, Go.refl.hide hD, rm1.hide fD gD, fD, gD, upd_same, .nil, rfl, Nat.zero_le _, ec, rfl⟩, ?_⟩
        rintro i k H' ⟨F', G', mm, accV, accD, ys', go', rm', fD', gD', hD', ra, rfl, hi, ecl, ey⟩
        obtain ⟨wstop, wgo⟩ := wk F' H' G' mm go'.f go'.g rm' i
        by_cases hlt : i < items.length
        · obtain ⟨jgo, jy⟩ := wgo items[i] (List.getElem?_eq_getElem hlt)
          rw [List.drop_eq_getElem_cons hlt] at ecl
          simp only [comp2L] at ecl
          split at ecl
          · rename_i env1 eb
            refine .inr ⟨jgo, fun H2 => ∃ F' G' mm accV accD ys', Go F1 H1 G1 F' H2 G' ∧ Rm K mg F' H2 G' mm ∧ F' D0 = none ∧ D0 ∉ G' ∧ H2 D0 = some (.lst accV) ∧ Rps K mg F' G' accV accD ∧
                comp2L b t fi1 b1 t1 fe vs1 (wipeE env vs) (items.drop (i + 1)) mm = .ok (ys', mE) ∧ accD ++ ys' = ys, fun H2 n2 => ?_, fun x H2 y => ?_⟩
            · obtain ⟨F2, G2, mm2, av, ad, ys2, a1, a2, a3, a4, a5, a6, a8, a9⟩ := n2
              exact ⟨items.length - (i + 1), by omega, F2, G2, mm2, av, ad, ys2, a1, a2, a3, a4, a5, a6, rfl, hlt, a8, a9⟩
            · obtain ⟨F2, go2, rm2, rp2⟩ := jy x H2 y
              have hD2 : H2 D0 = some (.lst accV) := go2.keep D0 _ hD' gD'
              have fD2 : F2 D0 = none := go2.thin D0 _ hD' gD' fD'
              have re2 : Re K mg F2 G' (wipe σ vs) (wipeE env vs) := (w0.go go').go go2
              refine ⟨F2, G', mm, _, _, env1, rm2, rp2, re2, eb, fun σ3 re3 l3 o3 => ⟨wipe_back l3 o3 hts, ?_⟩⟩
              split at ecl
              · rename_i mt et
                refine ⟨F2, G', mm, env1, true, mt, rm2, re3, et, fun F4 H4 G4 go4 rm4 => iteT ?_⟩
                have hD4 : H4 D0 = some (.lst accV) := go4.keep D0 _ hD2 gD'
                have fD4 : F4 D0 = none := go4.thin D0 _ hD2 gD' fD2
                have gD4 : D0 ∉ G4 := fun z => (go4.new D0 z).elim gD' fun e => by rw [hD2] at e; cases e
                split at ecl
                · rename_i items1 mi ei
                  split at ecl
                  · rename_i ys1 mj ej
                    split at ecl
                    · rename_i ys2 mk ek
                      cases ecl
                      refine ⟨F4, G4, mt, env1, items1, mi, rm4, re3.go go4, ei, fun J1 F5 H5 G5 go5 rm5 wk1 => ?_⟩
                      have hD5 : H5 D0 = some (.lst accV) := go5.keep D0 _ hD4 gD4
                      have fD5 : F5 D0 = none := go5.thin D0 _ hD4 gD4 fD4
                      have gD5 : D0 ∉ G5 := fun z => (go5.new D0 z).elim gD4 fun e => by rw [hD4] at e; cases e
                      have go5' : Go F1 H1 G1 F5 H5 G5 := ((go'.trans go2).trans go4).trans go5
                      have w1 := ((re3.go go4).go go5).wipe vs1
                      refine ⟨fun j k H' => ∃ F' G' mm accV accD ys', Go F1 H1 G1 F' H' G' ∧ Ex F5 F' ∧ Pre G5 G' ∧ Rm K mg F' H' G' mm ∧ F' D0 = none ∧ D0 ∉ G' ∧ H' D0 = some (.lst accV) ∧ Rps K mg F' G' accV accD ∧ k = items1.length - j ∧ j ≤ items1.length ∧
                          compL b1 t1 fe (wipeE env1 vs1) (items1.drop j) mm = .ok (ys', mj) ∧ accD ++ (ys' ++ ys2) = ys,
                        ⟨items1.length, F5, G5, mi, accV, accD, ys1, go5', Ex.refl _, Pre.refl _, rm5, fD5, gD5, hD5, (((ra.go go2).go go4).go go5), rfl, Nat.zero_le _, ej, ey⟩, ?_⟩
                      rintro j k H' ⟨F', G', mm, accV, accD, ys', go', ef, eg, rm', fD', gD', hD', ra, rfl, hi, ecl, ey⟩
                      obtain ⟨wstop, wgo⟩ := wk1 F' H' G' mm ef eg rm' j
                      by_cases hlt : j < items1.length
                      · obtain ⟨jgo, jy⟩ := wgo items1[j] (List.getElem?_eq_getElem hlt)
                        rw [List.drop_eq_getElem_cons hlt] at ecl
                        simp only [compL] at ecl
                        split at ecl
                        · rename_i env3 eb3
                          refine .inr ⟨jgo, fun H2 => ∃ F' G' mm accV accD ys', Go F1 H1 G1 F' H2 G' ∧ Ex F5 F' ∧ Pre G5 G' ∧ Rm K mg F' H2 G' mm ∧ F' D0 = none ∧ D0 ∉ G' ∧ H2 D0 = some (.lst accV) ∧ Rps K mg F' G' accV accD ∧
                              compL b1 t1 fe (wipeE env1 vs1) (items1.drop (j + 1)) mm = .ok (ys', mj) ∧ accD ++ (ys' ++ ys2) = ys, fun H2 n2 => ?_, fun x H2 y => ?_⟩
                          · obtain ⟨F2, G2, mm2, av, ad, ys2', a1, a2, a3, a4, a5, a6, a7, a8, a9, a10⟩ := n2
                            exact ⟨items1.length - (j + 1), by omega, F2, G2, mm2, av, ad, ys2', a1, a2, a3, a4, a5, a6, a7, a8, rfl, hlt, a9, a10⟩
                          · obtain ⟨F2, go2, rm2, rp2⟩ := jy x H2 y
                            have hD2 : H2 D0 = some (.lst accV) := go2.keep D0 _ hD' gD'
                            have fD2 : F2 D0 = none := go2.thin D0 _ hD' gD' fD'
                            have re2 : Re K mg F2 G' (wipe σ3 vs1) (wipeE env1 vs1) := (w1.mono ef eg).go go2
                            refine ⟨F2, G', mm, _, _, env3, rm2, rp2, re2, eb3, fun σ4 re4 l4 o4 => ⟨wipe_back l4 o4 hts1, ?_⟩⟩
                            split at ecl
                            · rename_i mt3 et3
                              refine ⟨F2, G', mm, env3, true, mt3, rm2, re4, et3, fun F4 H4 G4 go4 rm4 => iteT ?_⟩
                              have hD4 : H4 D0 = some (.lst accV) := go4.keep D0 _ hD2 gD'
                              have fD4 : F4 D0 = none := go4.thin D0 _ hD2 gD' fD2
                              have gD4 : D0 ∉ G4 := fun z => (go4.new D0 z).elim gD' fun e => by rw [hD2] at e; cases e
                              split at ecl
                              · rename_i yv m5 ee
                                split at ecl
                                · rename_i yf m6 ez
                                  split at ecl
                                  · rename_i ys6 m7 er
                                    cases ecl
                                    refine ⟨F4, G4, mt3, env3, yv, m5, rm4, re4.go go4, ee, fun v F5' H5' G5' go5 rm5 rp5 => ?_⟩
                                    have hD5 : H5' D0 = some (.lst accV) := go5.keep D0 _ hD4 gD4
                                    have fD5 : F5' D0 = none := go5.thin D0 _ hD4 gD4 fD4
                                    have gD5 : D0 ∉ G5' := fun z => (go5.new D0 z).elim gD4 fun e => by rw [hD4] at e; cases e
                                    obtain ⟨F6, rm6, go6, rp6⟩ := frz1_ok rm5 rp5 ez
                                    have fD6 : F6 D0 = none := go6.thin D0 _ hD5 gD5 fD5
                                    have all : Go F' H' G' F6 H5' G5' := ((go2.trans go4).trans go5).trans go6
                                    refine ⟨accV, hD5, ?_, F6, G5', m6, accV ++ [v], accD ++ [yf], ys6, (go'.trans all).hide hD, ef.trans all.f, eg.trans all.g, rm6.hide fD6 gD5, fD6, gD5, upd_same, (ra.go all).append (.cons rp6 .nil), er, ?_⟩
                                    · rw [ra.length]
                                      have := congrArg List.length ey
                                      simp only [List.length_append, List.length_cons] at this
                                      omega
                                    · rw [List.append_assoc]; exact ey
                                  · cases ecl
                                · cases ecl
                              · cases ecl
                            · rename_i mt3 et3
                              refine ⟨F2, G', mm, env3, false, mt3, rm2, re4, et3, fun F4 H4 G4 go4 rm4 => iteF ?_⟩
                              have hD4 : H4 D0 = some (.lst accV) := go4.keep D0 _ hD2 gD'
                              have fD4 : F4 D0 = none := go4.thin D0 _ hD2 gD' fD2
                              have gD4 : D0 ∉ G4 := fun z => (go4.new D0 z).elim gD' fun e => by rw [hD2] at e; cases e
                              exact ⟨F4, G4, mt3, accV, accD, ys', (go'.trans go2).trans go4, ef.trans (go2.f.trans go4.f), eg.trans (go2.g.trans go4.g), rm4, fD4, gD4, hD4, (ra.go go2).go go4, ecl, ey⟩
                            · cases ecl
                        · cases ecl
                      · have ei : j = items1.length := by omega
                        rw [ei, List.drop_length] at ecl
                        cases ecl
                        exact .inl ⟨wstop (by omega), F', G', _, accV, accD, ys2, go', rm', fD', gD', hD', ra, ek, ey⟩
                    · cases ecl
                  · cases ecl
                · cases ecl
              · rename_i mt et
                refine ⟨F2, G', mm, env1, false, mt, rm2, re3, et, fun F4 H4 G4 go4 rm4 => iteF ?_⟩
                have hD4 : H4 D0 = some (.lst accV) := go4.keep D0 _ hD2 gD'
                have fD4 : F4 D0 = none := go4.thin D0 _ hD2 gD' fD2
                have gD4 : D0 ∉ G4 := fun z => (go4.new D0 z).elim gD' fun e => by rw [hD2] at e; cases e
                exact ⟨F4, G4, mt, accV, accD, ys', (go'.trans go2).trans go4, rm4, fD4, gD4, hD4, (ra.go go2).go go4, ecl, ey⟩
              · cases ecl
          · cases ecl
        · have ei : i = items.length := by omega
          rw [ei, List.drop_length] at ecl
          cases ecl
          refine .inl ⟨wstop (by omega), ?_⟩
          rw [List.append_nil] at ey
          subst ey
          obtain ⟨F3, G3, go3, rm3, rp3⟩ := rm'.show' (c := c) go' hD fD' gD' hD' ra
          rw [e3] at rm3 rp3
          exact q _ F3 H' G3 (go1.trans go3) rm3 rp3
      · cases e
    · cases e
  · cases e
section
variable {X : Cx} {elt tg iter tg1 iter1 : Expr} {ifs ifs1 : List Expr} {scope : Scope} {pos : Pos} {fi fi1 : FI} {b b1 : FB} {t t1 : FT} {fe : FE} {ts ts1 : List Nat} {i : Nat} {x : Str}
theorem se_comp2 (c : Bool) (own : List (Str × Nat)) (vs1 : List Nat) (hc : X.calm = true) (hN : X.N.Nodup) (hi : SI X tg iter fi) {N : List Str} {sc : Scope} (ok : blkC N sc scope own = true) (hv : ∀ i ∈ vs1, i ∈ own.map (·.2))
    (hg : ∀ (s : Shared) (H : Hp) (C : Addr) (cl : List (Str × Addr)) (fp : List Addr), SG (X.blk s H scope (compEnvC scope cl C X.env) fp) ts tg b) (ht : ∀ (s : Shared) (H : Hp) (C : Addr) (cl : List (Str × Addr)) (fp : List Addr), STs (X.blk s H scope (compEnvC scope cl C X.env) fp) ifs t)
    (hi1 : ∀ (s : Shared) (H : Hp) (C : Addr) (cl : List (Str × Addr)) (fp : List Addr), SI (X.blk s H scope (compEnvC scope cl C X.env) fp) tg1 iter1 fi1)
    (hg1 : ∀ (s : Shared) (H : Hp) (C : Addr) (cl : List (Str × Addr)) (fp : List Addr), SG (X.blk s H scope (compEnvC scope cl C X.env) fp) ts1 tg1 b1) (ht1 : ∀ (s : Shared) (H : Hp) (C : Addr) (cl : List (Str × Addr)) (fp : List Addr), STs (X.blk s H scope (compEnvC scope cl C X.env) fp) ifs1 t1)
    (he : ∀ (s : Shared) (H : Hp) (C : Addr) (cl : List (Str × Addr)) (fp : List Addr), SE (X.blk s H scope (compEnvC scope cl C X.env) fp) elt fe) (hts : ∀ i, i ∈ ts → i ∈ own.map (·.2)) (hts1 : ∀ i, i ∈ ts1 → i ∈ vs1)
    (hs : ∀ x, foldedSetIterable iter X.env x = pure x := by intro _; rfl) (hs1 : ∀ env x, foldedSetIterable iter1 env x = pure x := by intro _ _; rfl) (eN : X.N = N := by rfl) (eS : X.env.scope = sc := by rfl) :
    SE X (.ListComp elt [⟨tg, iter, ifs, 0⟩, ⟨tg1, iter1, ifs1, 0⟩] scope pos) (fComp2 c fi b t fi1 b1 t1 fe (own.map (·.2)) vs1) :=
  se_of (pe_lc2 hc hN hi (blkOk_by (by rw [eN, eS]; exact ok)) hv hg ht hi1 hg1 ht1 he hs hs1) (imp_comp2 hts hts1)
theorem ss_asgComp2 {py spos : Pos} (c : Bool) (own : List (Str × Nat)) (vs1 : List Nat) (hc : X.calm = true) (hN : X.N.Nodup) (hi : SI X tg iter fi) {N : List Str} {sc : Scope} (ok : blkC N sc scope own = true) (hv : ∀ i ∈ vs1, i ∈ own.map (·.2))
    (hg : ∀ (s : Shared) (H : Hp) (C : Addr) (cl : List (Str × Addr)) (fp : List Addr), SG (X.blk s H scope (compEnvC scope cl C X.env) fp) ts tg b) (ht : ∀ (s : Shared) (H : Hp) (C : Addr) (cl : List (Str × Addr)) (fp : List Addr), STs (X.blk s H scope (compEnvC scope cl C X.env) fp) ifs t)
    (hi1 : ∀ (s : Shared) (H : Hp) (C : Addr) (cl : List (Str × Addr)) (fp : List Addr), SI (X.blk s H scope (compEnvC scope cl C X.env) fp) tg1 iter1 fi1)
    (hg1 : ∀ (s : Shared) (H : Hp) (C : Addr) (cl : List (Str × Addr)) (fp : List Addr), SG (X.blk s H scope (compEnvC scope cl C X.env) fp) ts1 tg1 b1) (ht1 : ∀ (s : Shared) (H : Hp) (C : Addr) (cl : List (Str × Addr)) (fp : List Addr), STs (X.blk s H scope (compEnvC scope cl C X.env) fp) ifs1 t1)
    (he : ∀ (s : Shared) (H : Hp) (C : Addr) (cl : List (Str × Addr)) (fp : List Addr), SE (X.blk s H scope (compEnvC scope cl C X.env) fp) elt fe) (hts : ∀ i, i ∈ ts → i ∈ own.map (·.2)) (hts1 : ∀ i, i ∈ ts1 → i ∈ vs1)
    (hsw : swapsWith (.ListComp elt [⟨tg, iter, ifs, 0⟩, ⟨tg1, iter1, ifs1, 0⟩] scope pos) (some (.Name x py)) spos.line X.env = pure true)
    (hy : X.N[i]? = some x := by rfl) (hyl : X.env.scope.names.lookup x = some .local := by rfl) (hs : ∀ x, foldedSetIterable iter X.env x = pure x := by intro _; rfl) (hs1 : ∀ env x, foldedSetIterable iter1 env x = pure x := by intro _ _; rfl) (eN : X.N = N := by rfl) (eS : X.env.scope = sc := by rfl) :
    SS X (.Assign [.Name x py] (.ListComp elt [⟨tg, iter, ifs, 0⟩, ⟨tg1, iter1, ifs1, 0⟩] scope pos) spos) (fAsg i (fComp2 c fi b t fi1 b1 t1 fe (own.map (·.2)) vs1)) :=
  ss_of (ps_setLc2 hc hN hy hyl hsw hi (blkOk_by (by rw [eN, eS]; exact ok)) hv hg ht hi1 hg1 ht1 he hs hs1) fun E σ H h => by
    have q := imp_asg E σ H h
    exact imp_comp2 hts hts1 σ H _ q
end
end Sm


set_option Elab.async false
set_option linter.all false
set_option maxRecDepth 100000
set_option maxHeartbeats 2000000
/-! Sem6: a def that changes the first two things alone (where draws come from): all else is framed off. -/
namespace Sm
open PySem PySem.Spec PyProof.Rows L2
def frzD1 (n : Nat) : D → Mem → R (D × Mem)
  | .loc k, m => if k < n then .ok (.loc k, m) else frz1 (.loc k) m
  | d, m => .ok (d, m)
def frzD (n : Nat) : List D → Mem → R (List D × Mem)
  | [], m => .ok ([], m)
  | d :: ds, m => (match frzD1 n d m with
    | .ok (d', m1) => (match frzD n ds m1 with
      | .ok (ds', m2) => .ok (d' :: ds', m2)
      | .bad => .bad)
    | .bad => .bad)
theorem frzD1_ok {K : PySem.W.Frag} {mg : Str → Option Value} {F H : Hp} {G : List Addr} {n : Nat} {v : V} {d d' : D} {m m' : Mem} (rm : Rm K mg F H G m) (r : Rp K mg F G v d) (h : frzD1 n d m = .ok (d', m')) : ∃ F', Rm K mg F' H G m' ∧ Go F H G F' H G ∧ Rp K mg F' G v d' := by
  unfold frzD1 at h
  split at h
  · split at h
    · cases h; exact ⟨F, rm, .refl, r⟩
    · exact frz1_ok rm r h
  · cases h; exact ⟨F, rm, .refl, r⟩
theorem frzD_length {n : Nat} : ∀ {ds ds' : List D} {m m' : Mem}, frzD n ds m = .ok (ds', m') → ds'.length = ds.length
  | [], _, _, _, h => by cases h; rfl
  | d :: ds, ds', m, m', h => by
    simp only [frzD] at h
    split at h
    · split at h
      · rename_i e2
        cases h
        rw [List.length_cons, List.length_cons, frzD_length e2]
      · cases h
    · cases h
theorem frzD_ok {K : PySem.W.Frag} {mg : Str → Option Value} {H : Hp} {G : List Addr} {n : Nat} : ∀ {ds ds' : List D} {vs : List V} {F : Hp} {m m' : Mem}, Rm K mg F H G m → Rps K mg F G vs ds → frzD n ds m = .ok (ds', m') → ∃ F', Rm K mg F' H G m' ∧ Go F H G F' H G ∧ Rps K mg F' G vs ds'
  | [], _, _, F, _, _, rm, r, h => by
    cases r
    cases h
    exact ⟨F, rm, .refl, .nil⟩
  | d :: ds, ds', _, F, m, m', rm, r, h => by
    cases r with
    | cons r1 r2 =>
      simp only [frzD] at h
      split at h
      · rename_i d1 m1 e1
        split at h
        · rename_i ds1 m2 e2
          cases h
          obtain ⟨F1, rm1, go1, q1⟩ := frzD1_ok rm r1 e1
          obtain ⟨F2, rm2, go2, q2⟩ := frzD_ok rm1 (r2.go go1) e2
          exact ⟨F2, rm2, go1.trans go2, .cons (q1.go go2) q2⟩
        · cases h
      · cases h
def deal1 (g : Fn) : Fn := fun ds m => match frzD 2 ds m with
  | .ok (ds', m0) => if belows 2 ds' = true ∧ 2 ≤ m0.length ∧ (m0.take 2).all (cellBelow 2) = true then (match g ds' (m0.take 2) with
    | .ok (d, m1) => (match frz1 d m1 with
      | .ok (d', m2) => if below 2 d' = true ∧ 2 ≤ m2.length ∧ (m2.take 2).all (cellBelow 2) = true then .ok (d', m2.take 2 ++ m0.drop 2) else .bad
      | .bad => .bad)
    | .bad => .bad) else .bad
  | .bad => .bad
theorem Def.deal1 {P : Program} {w : World} {K : PySem.W.Frag} {mg : Str → Option Value} {base : Heap} {k : Nat} {x : Str} {st : Stmt} {ps : List Str} {g : Fn} (h : Def P w K mg base k x st ps g) : Def P w K mg base k x st ps (deal1 g) := h.imp fun vs H Q E q => by
  obtain ⟨F, G, m, ds, d, m', rm, r, hl, e, q⟩ := q
  unfold Sm.deal1 at e
  split at e
  · rename_i ds' m0 e0
    split at e
    · rename_i hb
      obtain ⟨hb1, hb2, hb3⟩ := hb
      split at e
      · rename_i d1 m1 e1
        split at e
        · rename_i d2 m2 e2
          split at e
          · rename_i hc
            obtain ⟨hc1, hc2, hc3⟩ := hc
            cases e
            obtain ⟨F0, rm0, go0, r0⟩ := frzD_ok rm r e0
            have hG : ∀ k, k < 2 → (G.take 2)[k]? = G[k]? := fun k hk => List.getElem?_take_of_lt hk
            have memG : ∀ x, x ∈ G.take 2 → x ∈ G := fun x hx => List.mem_of_mem_take hx
            have rmT : Rm K mg F0 H (G.take 2) (m0.take 2) := by
              refine ⟨by rw [List.length_take, List.length_take, rm0.len], fun i j a hi hj => ?_, rm0.sub, fun n a c hn hm => ?_⟩
              · have hi2 : i < 2 := by
                  have := (List.getElem?_eq_some_iff.mp hi).1
                  rw [List.length_take] at this; omega
                have hj2 : j < 2 := by
                  have := (List.getElem?_eq_some_iff.mp hj).1
                  rw [List.length_take] at this; omega
                rw [hG i hi2] at hi
                rw [hG j hj2] at hj
                exact rm0.inj i j a hi hj
              · have hn2 : n < 2 := by
                  have := (List.getElem?_eq_some_iff.mp hn).1
                  rw [List.length_take] at this; omega
                have hcb : cellBelow 2 c = true := List.all_eq_true.mp hb3 c (List.mem_of_getElem? hm)
                rw [hG n hn2] at hn
                rw [List.getElem?_take_of_lt hn2] at hm
                cases rm0.cell n a c hn hm with
                | lst e1 e2 e3 => exact .lst e1 e2 (Rps.under hG _ _ e3 hcb)
                | obj e0 e1 e2 e3 => exact .obj e0 e1 e2 (Rpf.under hG _ _ e3 hcb)
                | frz e1 e2 => exact .frz (Rp.under hG _ _ e1 hcb) e2
            refine ⟨F0, G.take 2, m0.take 2, ds', d1, m1, rmT, Rps.under hG _ _ r0 hb1, by rw [frzD_length e0]; exact hl, e1, fun v F1 H1 G1 go1 rm1 r1 => ?_⟩
            obtain ⟨F2, rm2, go2, r2⟩ := frz1_ok rm1 r1 e2
            have go := go1.trans go2
            have hlenG : 2 ≤ G.length := by rw [rm0.len]; exact hb2
            have hG1 : ∀ k, k < 2 → G[k]? = G1[k]? := fun k hk => by
              have hk' : k < G.length := by omega
              rw [List.getElem?_eq_getElem hk', go.g k _ (by rw [hG k hk]; exact List.getElem?_eq_getElem hk')]
            refine q v F2 H1 G (go0.trans ⟨go.f, Pre.refl _, fun x o h n => go.keep x o h (fun z => n (memG x z)), fun x o h n z => go.thin x o h (fun z => n (memG x z)) z, fun _ z => .inl z, go.there⟩) ⟨?_, rm0.inj, rm2.sub, fun n a c hn hcell => ?_⟩ (Rp.under hG1 _ _ r2 hc1)
            · rw [List.length_append, List.length_take, List.length_drop, rm0.len]; omega
            · have l2 : (m2.take 2).length = 2 := by rw [List.length_take]; omega
              by_cases hn2 : n < 2
              · rw [List.getElem?_append_left (by omega)] at hcell
                have hcb : cellBelow 2 c = true := List.all_eq_true.mp hc3 c (List.mem_of_getElem? hcell)
                rw [List.getElem?_take_of_lt hn2] at hcell
                cases rm2.cell n a c (by rw [← hG1 n hn2]; exact hn) hcell with
                | lst e1 e2 e3 => exact .lst e1 e2 (Rps.under hG1 _ _ e3 hcb)
                | obj e0 e1 e2 e3 => exact .obj e0 e1 e2 (Rpf.under hG1 _ _ e3 hcb)
                | frz e1 e2 => exact .frz (Rp.under hG1 _ _ e1 hcb) e2
              · rw [List.getElem?_append_right (by omega), l2, List.getElem?_drop] at hcell
                have en : 2 + (n - 2) = n := by omega
                rw [en] at hcell
                have na : a ∉ G.take 2 := fun z => by
                  obtain ⟨j, hj⟩ := List.getElem?_of_mem z
                  have hj2 : j < 2 := by
                    have := (List.getElem?_eq_some_iff.mp hj).1
                    rw [List.length_take] at this; omega
                  rw [hG j hj2] at hj
                  have := rm0.inj j n a hj hn
                  omega
                cases rm0.cell n a c hn hcell with
                | lst e1 e2 e3 => exact .lst (go.keep a _ e1 na) (go.thin a _ e1 na e2) (e3.mono go.f (Pre.refl _))
                | obj e0 e1 e2 e3 => exact .obj e0 (go.keep a _ e1 na) (go.thin a _ e1 na e2) (e3.mono go.f (Pre.refl _))
                | frz e1 e2 =>
                  obtain ⟨o, e2⟩ := e2
                  exact .frz (e1.mono go.f (Pre.refl _)) ⟨o, go.f a o e2⟩
          · cases e
        · cases e
      · cases e
    · cases e
  · cases e
/-! ### the law's end -/
def spScr (K : PySem.W.Frag) : Sp := fun vs H Q _ => ∃ (a : Addr) (ns : List Int), vs = [.ref a] ∧ SqL K H a (ns.map V.int) ∧ ns.length ≤ 63 ∧ ∀ H', Q (.bl true) H'
theorem end_of {P : Program} {w : World} {K : PySem.W.Frag} {mg : Str → Option Value} {base : Heap} {k : Nat} {f : Addr} {fd : FuncData} {g : Fn} (h : FnOk P w K mg base CX0 k f fd ["script"] (spOf K mg 1 g))
    (l : ∀ ns : List Int, ns.length ≤ 63 → ∃ m, g [.scr (ns.map D.int)] [] = .ok (.bl true, m)) : FnOk P w K mg base CX0 k f fd ["script"] (spScr K) := h.imp fun vs H Q E q => by
  obtain ⟨a, ns, rfl, hS, hl, q⟩ := q
  obtain ⟨m, e⟩ := l ns hl
  refine ⟨fun x => if x = a then H a else none, [], [], [.scr (ns.map D.int)], .bl true, m, rm_nil fun x o hx => ?_, .cons (.scr ?_ (Rps.of_ints ns)) .nil, rfl, e, fun v F' H' G' _ _ r => ?_⟩
  · by_cases z : x = a
    · rw [if_pos z] at hx; rw [z]; exact hx
    · rw [if_neg z] at hx; cases hx
  · rcases hS with (h | ⟨o, h⟩) | h
    · exact .inl (.inl (by show (if a = a then H a else none) = _; rw [if_pos rfl]; exact h))
    · exact .inl (.inr ⟨o, by show (if a = a then H a else none) = _; rw [if_pos rfl]; exact h⟩)
    · exact .inr h
  · cases r
    exact q H'
theorem txt_of {K : PySem.W.Frag} {mg : Str → Option Value} {h : Heap} {x qual : Str} {st : Stmt} {ps : List Str} {f : Addr} {oc : Value} {od an : Option Addr} {osl : Array (Option Value)} {kV doc pm cdv ct : Value} (X : K.In h) (G : h.Ns mainGlobals mg)
    (a : PySem.W.nsIn K mainGlobals x = some (some (.ref f))) (l : K.lookup f = some ⟨oc, od, .func (PySem.W.fnOf x qual (defArgs st) (defBody st) (defScope st) .none kV doc pm an cdv ct), osl⟩)
    (c : PySem.W.codeIn K cdv qual = true) (k : PySem.W.keepIn K (.ref f) = true)
    (b : ∀ (kV doc pm : Value) (an : Option Addr) (cdv ct : Value) (us : List Value), us.length = ps.length → bindArgs (PySem.W.fnOf x qual (defArgs st) (defBody st) (defScope st) .none kV doc pm an cdv ct) ⟨us, []⟩ = pure (ps.zip us)) : Txt K mg x qual st ps :=
  ⟨f, _, fun_mk l c k, (fun_mk l c k).binds b, PySem.W.mg_of X G a⟩
theorem main_of {P : Program} {w : World} {K : PySem.W.Frag} {mg : Str → Option Value} {k : Nat} {qual : Str} {st : Stmt} {g : Fn} {fa : Addr} (T : Txt K mg "law" qual st ["script"]) (hmg : mg "law" = some (.ref fa))
    (hb : ∀ (qual : Str) (kV doc pm : Value) (an : Option Addr) (cdv ct v : Value), bindArgs (PySem.W.fnOf "law" qual (defArgs st) (defBody st) (defScope st) .none kV doc pm an cdv ct) ⟨[v], []⟩ = pure [(("script" : Str), v)])
    (hd : ∀ base : Heap, K.In base → base.Ns mainGlobals mg → Def P w K mg base k "law" st ["script"] g) (l : ∀ ns : List Int, ns.length ≤ 63 → ∃ m, g [.scr (ns.map D.int)] [] = .ok (.bl true, m)) :
    ∃ fd : FuncData, (∀ (s : Shared) (v : Value), BindsTo s fd ⟨[v], []⟩ [("script", v)]) ∧ ∀ base : Heap, K.In base → base.Ns mainGlobals mg → FnOk P w K mg base CX0 k fa fd ["script"] (spScr K) := by
  obtain ⟨f, fd, F, b, e⟩ := T.ex
  rw [hmg] at e
  cases e
  refine ⟨fd, fun s v => ?_, fun base h1 h2 => ?_⟩
  · obtain ⟨oc, od, kV, doc, pm, an, cdv, ct, osl, rfl, lk, hcd⟩ := F.ex
    exact .of_eq (hb _ _ _ _ _ _ _ _)
  · obtain ⟨qual', f', fd', F', b', e', ok⟩ := (hd base h1 h2).ex
    rw [hmg] at e'
    cases e'
    obtain ⟨oc, od, kV, doc, pm, an, cdv, ct, osl, e1, lk, hcd⟩ := F.ex
    obtain ⟨oc', od', kV', doc', pm', an', cdv', ct', osl', e1', lk', hcd'⟩ := F'.ex
    rw [lk] at lk'
    cases lk'
    exact end_of ok l
end Sm


set_option Elab.async false
set_option linter.all false
set_option maxRecDepth 100000
set_option maxHeartbeats 2000000
/-! Sem7: an expression that gives out a number or a truth value and keeps all as it was: what it has looked through may change again afterwards. -/
namespace Sm
open PySem PySem.Spec PyProof.Rows L2
def scal : D → Bool
  | .int _ => true
  | .bl _ => true
  | .non => true
  | .str _ => true
  | _ => false
def flatD : D → Bool
  | .int _ => true
  | .bl _ => true
  | .non => true
  | .str _ => true
  | .loc _ => true
  | _ => false
def flatC : Cell → Bool
  | .lst ds => ds.all flatD
  | .frz (.lst ds) => ds.all flatD
  | _ => false
def isLst : Cell → Bool
  | .lst _ => true
  | _ => false
def thawC : Cell → Cell
  | .frz (.lst ds) => .lst ds
  | c => c
def fKeep (fa : FE) : FE := fun env m => match fa env m with
  | .ok (d, m1) => if scal d = true ∧ m1.length = m.length ∧ m.all isLst = true ∧ m1.all flatC = true then .ok (d, m1.map thawC) else .bad
  | .bad => .bad
section
variable {K : PySem.W.Frag} {mg : Str → Option Value} {F F' : Hp} {G : List Addr}
theorem Rp.scal {v : V} {d : D} (r : Rp K mg F G v d) (h : Sm.scal d = true) : Rp K mg F' G v d := by
  cases r with
  | non => exact .non
  | bl b => exact .bl b
  | int i => exact .int i
  | str s => exact .str s
  | tup _ _ => cases h
  | lst _ _ => cases h
  | scr _ _ => cases h
  | obj _ _ _ => cases h
  | loc _ => cases h
theorem Rp.flat {v : V} {d : D} (r : Rp K mg F G v d) (h : Sm.flatD d = true) : Rp K mg F' G v d := by
  cases r with
  | non => exact .non
  | bl b => exact .bl b
  | int i => exact .int i
  | str s => exact .str s
  | tup _ _ => cases h
  | lst _ _ => cases h
  | scr _ _ => cases h
  | obj _ _ _ => cases h
  | loc e => exact .loc e
theorem Rps.flat : ∀ {vs : List V} {ds : List D}, Rps K mg F G vs ds → ds.all Sm.flatD = true → Rps K mg F' G vs ds
  | _, _, .nil, _ => .nil
  | _, _, .cons r rs, h => by
    rw [List.all_cons, Bool.and_eq_true] at h
    exact .cons (Rp.flat r h.1) (Rps.flat rs h.2)
end
/-- what was looked through is let go again -/
theorem keep_core {K : PySem.W.Frag} {mg : Str → Option Value} {F H F1 H1 : Hp} {G G1 : List Addr} {m m1 : Mem} (rm : Rm K mg F H G m) (go1 : Go F H G F1 H1 G1) (rm1 : Rm K mg F1 H1 G1 m1) (hl : m1.length = m.length) (hm : m.all isLst = true) (hf : m1.all flatC = true) : ∃ F' : Hp, Go F H G F' H1 G1 ∧ Rm K mg F' H1 G1 (m1.map thawC) := by
  have hFG : ∀ a, a ∈ G → F a = none := fun a ha => by
    obtain ⟨n, hn⟩ := List.getElem?_of_mem ha
    have hnl : n < m.length := by
      have := (List.getElem?_eq_some_iff.mp hn).1
      rw [rm.len] at this
      exact this
    have hm' := List.all_eq_true.mp hm _ (List.getElem_mem hnl)
    have hcell := rm.cell n a m[n] hn (List.getElem?_eq_getElem hnl)
    generalize m[n] = c at hm' hcell
    cases hcell with
    | lst _ e2 _ => exact e2
    | obj _ _ e2 _ => exact e2
    | frz _ _ => cases hm'
  have hmem : ∀ (n : Nat) (a : Addr), G1[n]? = some a → a ∈ G := fun n a hn => by
    have hnl : n < G.length := by
      have := (List.getElem?_eq_some_iff.mp hn).1
      rw [rm1.len, hl, ← rm.len] at this
      exact this
    have := go1.g n _ (List.getElem?_eq_getElem hnl)
    rw [hn] at this
    rw [Option.some.inj this]
    exact List.getElem_mem hnl
  classical
  let F' : Hp := fun x => if x ∈ G then none else F1 x
  have hF' : ∀ x o, F' x = some o → F1 x = some o := fun x o hx => by
    by_cases hxG : x ∈ G
    · rw [show F' x = none from if_pos hxG] at hx; cases hx
    · rw [show F' x = F1 x from if_neg hxG] at hx; exact hx
  refine ⟨F', ⟨fun x o hx => ?_, go1.g, go1.keep, fun x o e n z => ?_, go1.new, go1.there⟩, ⟨by rw [List.length_map]; exact rm1.len, rm1.inj, fun x o hx => rm1.sub x o (hF' x o hx), fun n a c hn hcell => ?_⟩⟩
  · have hxG : x ∉ G := fun z => by rw [hFG x z] at hx; cases hx
    show (if x ∈ G then none else F1 x) = some o
    rw [if_neg hxG]
    exact go1.f x o hx
  · show (if x ∈ G then none else F1 x) = none
    rw [if_neg n]
    exact go1.thin x o e n z
  · rw [List.getElem?_map] at hcell
    obtain ⟨c0, hc0, rfl⟩ := Option.map_eq_some_iff.mp hcell
    have haG := hmem n a hn
    have hFa : F' a = none := if_pos haG
    have hfl := List.all_eq_true.mp hf c0 (List.mem_of_getElem? hc0)
    have hk := rm1.cell n a c0 hn hc0
    cases hk with
    | lst e1 e2 e3 => exact .lst e1 hFa (Rps.flat e3 hfl)
    | obj e0 e1 e2 e3 => cases hfl
    | frz r e2 =>
      cases r with
      | lst e3 r3 => exact .lst (rm1.sub _ _ e3) hFa (Rps.flat r3 hfl)
      | tup _ _ => cases hfl
      | scr _ _ => cases hfl
      | obj _ _ _ => cases hfl
      | loc _ => cases hfl
theorem se_keep {X : Cx} {e : Expr} {fa : FE} (h : SE X e fa) : SE X e (fKeep fa) := se_of h fun σ H Q h' => by
  obtain ⟨F, G, m, env, d, m', rm, re, e, q⟩ := h'
  unfold fKeep at e
  split at e
  · rename_i d1 m1 e1
    split at e
    · rename_i hc
      obtain ⟨hs, hl, hm, hf⟩ := hc
      cases e
      refine ⟨F, G, m, env, _, m1, rm, re, e1, fun v F1 H1 G1 go1 rm1 rp1 => ?_⟩
      obtain ⟨F', go', rm'⟩ := keep_core rm go1 rm1 hl hm hf
      exact q v F' H1 G1 go' rm' (rp1.scal hs)
    · cases e
  · cases e
/-- the same of a test -/
def fKeepT (t : FT) : FT := fun env m => match t env m with
  | .ok (b, m1) => if m1.length = m.length ∧ m.all isLst = true ∧ m1.all flatC = true then .ok (b, m1.map thawC) else .bad
  | .bad => .bad
theorem st_keep {X : Cx} {e : Expr} {t : FT} (h : ST X e t) : ST X e (fKeepT t) := st_of h fun σ H Q h' => by
  obtain ⟨F, G, m, env, d, m', rm, re, e, q⟩ := h'
  unfold fKeepT at e
  split at e
  · rename_i d1 m1 e1
    split at e
    · rename_i hc
      obtain ⟨hl, hm, hf⟩ := hc
      cases e
      refine ⟨F, G, m, env, _, m1, rm, re, e1, fun F1 H1 G1 go1 rm1 => ?_⟩
      obtain ⟨F', go', rm'⟩ := keep_core rm go1 rm1 hl hm hf
      exact q F' H1 G1 go' rm'
    · cases e
  · cases e
end Sm


set_option Elab.async false
set_option linter.all false
set_option maxRecDepth 100000
set_option maxHeartbeats 4000000
/-! LibS: what the defs of the text compute (printed by gen.py). -/
namespace Lb
open Sm
open PySem PySem.Spec PyProof.Rows L2
def f_two_steps : Fn := pure1 (mkFn 3
  (fThen (fUnp (bTup 2 (bCons (bName 1) (bCons (bName 2) bNil))) (fTup (fCons (fC (.int 0)) (fCons (fC (.int 1)) fNil))))
    (fThen (fWhile (fTest (fBin (gCmp fun i j => decide (i < j)) (fVar 2) (fVar 0))) (fPar 1 2 (fCons (fBin (gAdd false) (fVar 1) (fC (.int 1))) (fCons (fBin (gMul false) (fC (.int 2)) (fVar 2)) fNil))))
    (fRet (fVar 1)))))
def f_folded : Fn := pure1 (mkFn 5
  (fThen (fAsg 3 (fBin gDiv (fBl gLen (fCons (fVar 1) fNil)) (fC (.int 2))))
    (fRet (fComp false (fRng1 (fCons (fVar 3) fNil)) (bName 4) fYes (fBin gMod (fBin (gAdd false) (fBin gIx (fVar 1) (fVar 4)) (fBin (gMul false) (fVar 2) (fBin gSub (fBin gIx (fVar 1) (fBin (gAdd false) (fVar 3) (fVar 4))) (fBin gIx (fVar 1) (fVar 4))))) (fVar 0)) [4]))))
def f_plain_power : Fn := pure1 (mkFn 4
  (fThen (fAsg 2 (fC (.int 1)))
    (fThen (fFor (fRng1 (fCons (fVar 1) fNil)) (bName 3) (fAsg 2 (fBin (gMul false) (fVar 2) (fVar 0))))
    (fRet (fVar 2)))))
def f_letters_in : Fn := pure1 (mkFn 1
  (fRet (fCall f_two_steps 1 (fCons (fBl gLen (fCons (fVar 0) fNil)) fNil))))
def f_inverse : Fn := pure1 (mkFn 7
  (fThen (fUnp (bTup 4 (bCons (bName 2) (bCons (bName 3) (bCons (bName 4) (bCons (bName 5) bNil))))) (fTup (fCons (fVar 0) (fCons (fVar 1) (fCons (fC (.int 0)) (fCons (fC (.int 1)) fNil))))))
    (fThen (fWhile (fTest (fBin (gEq true) (fVar 3) (fC (.int 0)))) (fThen (fAsg 6 (fBin gDiv (fVar 2) (fVar 3)))
    (fThen (fPar 2 3 (fCons (fVar 3) (fCons (fBin gSub (fVar 2) (fBin (gMul false) (fVar 6) (fVar 3))) fNil)))
    (fPar 4 5 (fCons (fVar 5) (fCons (fBin gSub (fVar 4) (fBin (gMul false) (fVar 6) (fVar 5))) fNil))))))
    (fRet (fBin gMod (fVar 4) (fVar 0))))))
def f_line_noughts : Fn := pure1 (mkFn 3
  (fThen (fIfS (fTest (fBin (gEq true) (fVar 1) (fVar 2))) (fRet (fC (.int 1))) fNext)
    (fRet (fIf (fTest (fBin (gEq false) (fVar 1) (fC (.int 0)))) (fVar 0) (fC (.int 0))))))
def f_line_nought : Fn := pure1 (mkFn 3
  (fRet (fBin gMod (fBin (gMul false) (fVar 1) (fCall f_inverse 2 (fCons (fVar 0) (fCons (fBin gMod (fBin gSub (fVar 1) (fVar 2)) (fVar 0)) fNil)))) (fVar 0))))
def f_square_noughts : Fn := pure1 (mkFn 6
  (fThen (fPar 2 3 (fCons (fBin gSub (fBin gIx (fVar 1) (fC (.int 0))) (fBin gIx (fVar 1) (fC (.int 2)))) (fCons (fBin gSub (fBin gIx (fVar 1) (fC (.int 1))) (fBin gIx (fVar 1) (fC (.int 3)))) fNil)))
    (fThen (fIfS (fTest (fBin (gEq false) (fBin gMod (fVar 2) (fVar 0)) (fBin gMod (fVar 3) (fVar 0)))) (fThen (fIfS (fTest (fBin (gEq true) (fBin gMod (fVar 2) (fVar 0)) (fC (.int 0)))) (fRet (fVar 0)) fNext)
    (fRet (fBin (gMul false) (fVar 0) (fCall f_line_noughts 3 (fCons (fVar 0) (fCons (fBin gIx (fVar 1) (fC (.int 0))) (fCons (fBin gIx (fVar 1) (fC (.int 1))) fNil))))))) fNext)
    (fThen (fAsg 4 (fCall f_line_nought 3 (fCons (fVar 0) (fCons (fBin gMod (fVar 2) (fVar 0)) (fCons (fBin gMod (fVar 3) (fVar 0)) fNil)))))
    (fThen (fAsg 5 (fBin gMod (fBin (gAdd false) (fBin gIx (fVar 1) (fC (.int 0))) (fBin (gMul false) (fVar 4) (fBin gSub (fBin gIx (fVar 1) (fC (.int 1))) (fBin gIx (fVar 1) (fC (.int 0)))))) (fVar 0)))
    (fRet (fBin (gAdd false) (fBin gSub (fVar 0) (fC (.int 1))) (fIf (fTest (fBin (gEq false) (fVar 5) (fC (.int 0)))) (fVar 0) (fC (.int 0))))))))))
def f_small_noughts : Fn := pure1 (mkFn 2
  (fThen (fIfS (fTest (fBin (gEq false) (fBl gLen (fCons (fVar 1) fNil)) (fC (.int 1)))) (fRet (fIf (fTest (fBin (gEq false) (fBin gIx (fVar 1) (fC (.int 0))) (fC (.int 0)))) (fC (.int 1)) (fC (.int 0)))) fNext)
    (fThen (fIfS (fTest (fBin (gEq false) (fBl gLen (fCons (fVar 1) fNil)) (fC (.int 2)))) (fRet (fCall f_line_noughts 3 (fCons (fVar 0) (fCons (fBin gIx (fVar 1) (fC (.int 0))) (fCons (fBin gIx (fVar 1) (fC (.int 1))) fNil))))) fNext)
    (fRet (fCall f_square_noughts 2 (fCons (fVar 0) (fCons (fVar 1) fNil)))))))
def f_parted : Fn := pure1 (mkFn 5
  (fThen (fAsg 2 (fLst false (fCons (fBl (gList false) (fCons (fVar 1) fNil)) fNil)))
    (fThen (fWhile (fTest (fBin (gCmp fun i j => decide (j < i)) (fBl gLen (fCons (fBin gIx (fVar 2) (fC (.int 0))) fNil)) (fC (.int 4)))) (fAsg 2 (fComp2 false (fSeq (fVar 2)) (bName 3) fYes (fRng1 (fCons (fVar 0) fNil)) (bName 4) fYes (fCall f_folded 3 (fCons (fVar 0) (fCons (fVar 3) (fCons (fVar 4) fNil)))) [3, 4] [4])))
    (fRet (fVar 2)))))
def f_noughts_in : Fn := pure1 (mkFn 6
  (fThen (fAsg 2 (fBl gLen (fCons (fComp false (fSeq (fVar 1)) (bName 4) (fTest (fBin (gEq true) (fVar 4) (fC (.int 0)))) (fVar 4) [4]) fNil)))
    (fThen (fAsg 3 (fCall f_letters_in 1 (fCons (fVar 1) fNil)))
    (fThen (fIfS (fTest (fBin (gEq false) (fVar 2) (fC (.int 0)))) (fRet (fCall f_plain_power 2 (fCons (fVar 0) (fCons (fVar 3) fNil)))) fNext)
    (fThen (fIfS (fTest (fBin (gEq false) (fVar 2) (fC (.int 1)))) (fRet (fBin gSub (fCall f_plain_power 2 (fCons (fVar 0) (fCons (fVar 3) fNil))) (fCall f_plain_power 2 (fCons (fBin gSub (fVar 0) (fC (.int 1))) (fCons (fVar 3) fNil))))) fNext)
    (fThen (fIfS (fTest (fBin (gCmp fun i j => decide (i ≤ j)) (fBl gLen (fCons (fVar 1) fNil)) (fC (.int 4)))) (fRet (fCall f_small_noughts 2 (fCons (fVar 0) (fCons (fVar 1) fNil)))) fNext)
    (fRet (fBl gSum (fCons (fComp false (fSeq (fCall f_parted 2 (fCons (fVar 0) (fCons (fVar 1) fNil)))) (bName 5) fYes (fCall f_small_noughts 2 (fCons (fVar 0) (fCons (fVar 5) fNil))) [5]) fNil)))))))))
def f_nought_points : Fn := pure1 (mkFn 2
  (fRet (fCall f_noughts_in 2 (fCons (fVar 0) (fCons (fVar 1) fNil)))))
def f__law_deal : Fn := (mkFn 6
  (fThen (fAsg 2 (fBin (gMul false) (fBin (gMul false) (fBin (gMul false) (fBin (gMul false) (fBin (gMul false) (fBin gPow (fC (.int 10)) (fC (.int 64))) (fBin gPow (fC (.int 10)) (fC (.int 64)))) (fBin gPow (fC (.int 10)) (fC (.int 64)))) (fBin gPow (fC (.int 10)) (fC (.int 64)))) (fBin gPow (fC (.int 10)) (fC (.int 64)))) (fBin gPow (fC (.int 10)) (fC (.int 64)))))
    (fThen (fAsg 3 (fComp false (fSeq (fSl false (fVar 0) fNoP (fPart (fC (.int 63))))) (bName 5) fYes (fBin gMod (fBl gInt (fCons (fBl gAbs (fCons (fBl gInt (fCons (fVar 5) fNil)) fNil)) fNil)) (fVar 2)) [5]))
    (fThen (fAsg 4 (fBin (gAdd false) (fC (.int 70001)) (fBin (gMul false) (fC (.int 7919)) (fVar 1))))
    (fThen (fFor (fSeq (fVar 3)) (bName 5) (fAsg 4 (fBin gMod (fBl gInt (fCons (fBin (gAdd false) (fBin (gAdd false) (fBin (gMul false) (fVar 4) (fC (.int 69621))) (fBin gMod (fBl gInt (fCons (fVar 5) fNil)) (fC (.int 2147483563)))) (fC (.int 23))) fNil)) (fC (.int 2147483647)))))
    (fRet (fLst true (fCons (fRev true (fComp false (fSeq (fVar 3)) (bName 5) (fTest (fBin (gCmp fun i j => decide (j ≤ i)) (fVar 5) (fBin gPow (fC (.int 10)) (fC (.int 18))))) (fVar 5) [5])) (fCons (fVar 4) fNil)))))))))
def f__law_any : Fn := deal1 (mkFn 3
  (fThen (fWhile (fAnd (fTest (fBin (gEq true) (fBin gIx (fVar 0) (fC (.int 0))) (fLst false fNil))) (fTest (fBin (gEq false) (fBin gIx (fBin gIx (fVar 0) (fC (.int 0))) (fUn gNeg (fC (.int 1)))) (fC (.int 0))))) (fDrop (fPop (fBin gIx (fVar 0) (fC (.int 0))))))
    (fThen (fIfS (fTest (fBin (gEq true) (fBin gIx (fVar 0) (fC (.int 0))) (fLst false fNil))) (fThen (fAsg 2 (fBl gInt (fCons (fPop (fBin gIx (fVar 0) (fC (.int 0)))) fNil)))
    (fThen (fDrop (fAppend (fBin gIx (fVar 0) (fC (.int 0))) (fBin gDiv (fVar 2) (fVar 1))))
    (fRet (fBin gMod (fVar 2) (fVar 1))))) fNext)
    (fThen (fSetIxR (fVar 0) (fC (.int 1)) (fBin gMod (fBl gInt (fCons (fBin (gAdd false) (fBin (gMul false) (fBin gIx (fVar 0) (fC (.int 1))) (fC (.int 48271))) (fC (.int 31))) fNil)) (fC (.int 2147483647))))
    (fRet (fBin gMod (fBl gInt (fCons (fBin gDiv (fBin gIx (fVar 0) (fC (.int 1))) (fC (.int 64))) fNil)) (fVar 1)))))))
def f__law_of : Fn := deal1 (mkFn 2
  (fRet (fBin gIx (fVar 1) (fCall f__law_any 2 (fCons (fVar 0) (fCons (fBl gLen (fCons (fVar 1) fNil)) fNil))))))
def f__law_prime : Fn := deal1 (mkFn 2
  (fThen (fAsg 1 (fLst false (fCons (fC (.int 11)) (fCons (fC (.int 13)) (fCons (fC (.int 17)) (fCons (fC (.int 31)) (fCons (fC (.int 101)) (fCons (fC (.int 127)) (fCons (fC (.int 257)) (fCons (fC (.int 16381)) (fCons (fC (.int 65537)) (fCons (fC (.int 1000003)) (fCons (fC (.int 2147483647)) (fCons (fC (.int 4294967291)) (fCons (fC (.int 34359738337)) (fCons (fC (.int 999999999989)) (fCons (fC (.int 1152921504606846883)) (fCons (fC (.int 2305843009213693921)) fNil))))))))))))))))))
    (fRet (fCall f__law_of 2 (fCons (fVar 0) (fCons (fBin (gAdd false) (fLst false (fCons (fC (.int 5)) (fCons (fC (.int 5)) (fCons (fC (.int 7)) (fCons (fC (.int 2305843009213693951)) (fCons (fC (.int 2305843009213693951)) fNil)))))) (fVar 1)) fNil))))))
def f__law_residue : Fn := deal1 (mkFn 3
  (fThen (fAsg 2 (fCall f__law_any 2 (fCons (fVar 0) (fCons (fC (.int 6)) fNil))))
    (fThen (fIfS (fTest (fBin (gCmp fun i j => decide (i < j)) (fVar 2) (fC (.int 2)))) (fRet (fBin gIx (fLst false (fCons (fC (.int 0)) (fCons (fC (.int 1)) (fCons (fBin gSub (fVar 1) (fC (.int 1))) (fCons (fC (.int 2)) fNil))))) (fBin (gAdd false) (fBin (gMul false) (fC (.int 2)) (fVar 2)) (fCall f__law_any 2 (fCons (fVar 0) (fCons (fC (.int 2)) fNil)))))) fNext)
    (fThen (fIfS (fTest (fBin (gEq true) (fBin gIx (fVar 0) (fC (.int 0))) (fLst false fNil))) (fRet (fCall f__law_any 2 (fCons (fVar 0) (fCons (fVar 1) fNil)))) fNext)
    (fRet (fBin gMod (fBl gInt (fCons (fBin (gAdd false) (fBin (gMul false) (fCall f__law_any 2 (fCons (fVar 0) (fCons (fC (.int 33554393)) fNil))) (fC (.int 68719476767))) (fCall f__law_any 2 (fCons (fVar 0) (fCons (fC (.int 33554393)) fNil)))) fNil)) (fVar 1)))))))
def f__law_residues : Fn := deal1 (mkFn 4
  (fRet (fBl gTuple (fCons (fComp false (fRng1 (fCons (fVar 2) fNil)) (bName 3) fYes (fCall f__law_residue 2 (fCons (fVar 0) (fCons (fVar 1) fNil))) [3]) fNil))))
def b__law_same (rec : Fn) : FS :=
  (fThen (fIfS (fTest (fIsi "tuple" (fVar 1))) (fThen (fIfS (fOr (fNot (fTest (fIsi "tuple" (fVar 0)))) (fTest (fBin (gEq true) (fBl gLen (fCons (fVar 0) fNil)) (fBl gLen (fCons (fVar 1) fNil))))) (fRet (fC (.bl false))) fNext)
    (fRet (fBin (gEq false) (fBl gLen (fCons (fComp false (fRng1 (fCons (fBl gLen (fCons (fVar 1) fNil)) fNil)) (bName 2) (fNot (fTest (fCall rec 2 (fCons (fBin gIx (fVar 0) (fVar 2)) (fCons (fBin gIx (fVar 1) (fVar 2)) fNil))))) (fVar 2) [2]) fNil)) (fC (.int 0))))) fNext)
    (fThen (fIfS (fTest (fBin (gIsN false) (fVar 1) (fC .non))) (fRet (fBin (gIsN false) (fVar 0) (fC .non))) fNext)
    (fThen (fIfS (fOr (fTest (fBin (gIsB false) (fVar 1) (fC (.bl true)))) (fTest (fBin (gIsB false) (fVar 1) (fC (.bl false))))) (fRet (fIf (fTest (fVar 1)) (fBin (gIsB false) (fVar 0) (fC (.bl true))) (fBin (gIsB false) (fVar 0) (fC (.bl false))))) fNext)
    (fThen (fIfS (fTest (fIsi "str" (fVar 1))) (fRet (fAndV (fIsi "str" (fVar 0)) (fBin (gEq false) (fVar 0) (fVar 1)))) fNext)
    (fRet (fAndV (fIsi "int" (fVar 0)) (fAndV (fNotV (fIsi "bool" (fVar 0))) (fBin (gEq false) (fVar 0) (fVar 1)))))))))
def r__law_same : Nat → Fn
  | 0 => fun _ _ => .bad
  | n + 1 => pure1 (mkFn 3 (b__law_same (r__law_same n)))
def f__law_same : Fn := r__law_same 12
def f__law_all : Fn := pure1 (mkFn 3
  (fRet (fBin (gEq false) (fBl gLen (fCons (fComp false (fSeq (fVar 0)) (bTup 2 (bCons (bName 1) (bCons (bName 2) bNil))) (fNot (fTest (fCall f__law_same 2 (fCons (fVar 1) (fCons (fVar 2) fNil))))) (fVar 1) [1, 2]) fNil)) (fC (.int 0)))))
def f__law_twos : Fn := pure1 (mkFn 3
  (fThen (fAsg 1 (fC (.int 1)))
    (fThen (fFor (fRng1 (fCons (fVar 0) fNil)) (bName 2) (fAsg 1 (fBin (gMul false) (fC (.int 2)) (fVar 1))))
    (fRet (fVar 1)))))
def f__law_letters : Fn := pure1 (mkFn 3
  (fThen (fUnp (bTup 2 (bCons (bName 1) (bCons (bName 2) bNil))) (fTup (fCons (fC (.int 0)) (fCons (fC (.int 1)) fNil))))
    (fThen (fWhile (fTest (fBin (gCmp fun i j => decide (i < j)) (fVar 2) (fVar 0))) (fPar 1 2 (fCons (fBin (gAdd false) (fVar 1) (fC (.int 1))) (fCons (fBin (gMul false) (fC (.int 2)) (fVar 2)) fNil))))
    (fRet (fVar 1)))))
def f__law_line : Fn := pure1 (mkFn 5
  (fRet (fComp false (fRng1 (fCons (fBl gLen (fCons (fVar 1) fNil)) fNil)) (bName 4) fYes (fBin gMod (fBl gInt (fCons (fBin (gAdd false) (fBin gIx (fVar 1) (fVar 4)) (fBin (gMul false) (fVar 3) (fBin gSub (fBin gIx (fVar 2) (fVar 4)) (fBin gIx (fVar 1) (fVar 4))))) fNil)) (fVar 0)) [4])))
def f__law_power_v2 : Fn := pure1 (mkFn 4
  (fThen (fAsg 2 (fC (.int 1)))
    (fThen (fFor (fRng1 (fCons (fVar 1) fNil)) (bName 3) (fAsg 2 (fBin (gMul false) (fVar 2) (fVar 0))))
    (fRet (fVar 2)))))
def f__law_points : Fn := pure1 (mkFn 8
  (fThen (fAsg 2 (fLst false (fCons (fBl (gList false) (fCons (fVar 1) fNil)) fNil)))
    (fThen (fFor (fRng1 (fCons (fCall f__law_letters 1 (fCons (fBl gLen (fCons (fVar 1) fNil)) fNil)) fNil)) (bName 3) (fThen (fAsg 4 (fLst true fNil))
    (fThen (fFor (fSeq (fVar 2)) (bName 5) (fThen (fAsg 6 (fBin gDiv (fBl gLen (fCons (fVar 5) fNil)) (fC (.int 2))))
    (fFor (fRng1 (fCons (fVar 0) fNil)) (bName 7) (fDrop (fAppend (fVar 4) (fCall f__law_line 4 (fCons (fVar 0) (fCons (fSl false (fVar 5) fNoP (fPart (fVar 6))) (fCons (fSl false (fVar 5) (fPart (fVar 6)) fNoP) (fCons (fVar 7) fNil))))))))))
    (fAsg 2 (fVar 4)))))
    (fRet (fBl gLen (fCons (fComp false (fSeq (fVar 2)) (bName 5) (fTest (fBin (gEq false) (fBin gIx (fVar 5) (fC (.int 0))) (fC (.int 0)))) (fVar 5) [5]) fNil))))))
def f__law_square : Fn := pure1 (mkFn 6
  (fThen (fPar3 2 3 4 (fCons (fBin gIx (fVar 1) (fC (.int 0))) (fCons (fBin gSub (fBin gIx (fVar 1) (fC (.int 2))) (fBin gIx (fVar 1) (fC (.int 0)))) (fCons (fBin gSub (fBin gIx (fVar 1) (fC (.int 1))) (fBin gIx (fVar 1) (fC (.int 0)))) fNil))))
    (fThen (fAsg 5 (fBin gMod (fBl gInt (fCons (fBin (gAdd false) (fBin gSub (fBin gSub (fBin gIx (fVar 1) (fC (.int 3))) (fBin gIx (fVar 1) (fC (.int 2)))) (fBin gIx (fVar 1) (fC (.int 1)))) (fBin gIx (fVar 1) (fC (.int 0)))) fNil)) (fVar 0)))
    (fThen (fIfS (fTest (fBin (gEq true) (fVar 5) (fC (.int 0)))) (fRet (fIf (fTest (fBin (gEq false) (fBin gMod (fBl gInt (fCons (fBin gSub (fBin (gMul false) (fVar 2) (fVar 5)) (fBin (gMul false) (fVar 3) (fVar 4))) fNil)) (fVar 0)) (fC (.int 0)))) (fBin gSub (fBin (gMul false) (fC (.int 2)) (fVar 0)) (fC (.int 1))) (fBin gSub (fVar 0) (fC (.int 1))))) fNext)
    (fThen (fIfS (fOr (fTest (fBin (gEq true) (fBin gMod (fBl gInt (fCons (fVar 3) fNil)) (fVar 0)) (fC (.int 0)))) (fTest (fBin (gEq true) (fBin gMod (fBl gInt (fCons (fVar 4) fNil)) (fVar 0)) (fC (.int 0))))) (fRet (fVar 0)) fNext)
    (fRet (fIf (fTest (fBin (gEq false) (fVar 2) (fC (.int 0)))) (fBin (gMul false) (fVar 0) (fVar 0)) (fC (.int 0)))))))))
def f__law_noughts : Fn := pure1 (mkFn 5
  (fThen (fPar 2 3 (fCons (fCall f__law_letters 1 (fCons (fBl gLen (fCons (fVar 1) fNil)) fNil)) (fCons (fComp false (fSeq (fVar 1)) (bName 4) (fTest (fBin (gEq true) (fVar 4) (fC (.int 0)))) (fVar 4) [4]) fNil)))
    (fThen (fIfS (fTest (fBin (gEq false) (fVar 3) (fLst false fNil))) (fRet (fCall f__law_power_v2 2 (fCons (fVar 0) (fCons (fVar 2) fNil)))) fNext)
    (fThen (fIfS (fTest (fBin (gEq false) (fBl gLen (fCons (fVar 3) fNil)) (fC (.int 1)))) (fRet (fBin gSub (fCall f__law_power_v2 2 (fCons (fVar 0) (fCons (fVar 2) fNil))) (fCall f__law_power_v2 2 (fCons (fBin gSub (fVar 0) (fC (.int 1))) (fCons (fVar 2) fNil))))) fNext)
    (fThen (fIfS (fTest (fBin (gEq false) (fBl gLen (fCons (fVar 1) fNil)) (fC (.int 2)))) (fRet (fIf (fTest (fBin (gEq false) (fBin gIx (fVar 1) (fC (.int 0))) (fBin gIx (fVar 1) (fC (.int 1))))) (fC (.int 0)) (fC (.int 1)))) fNext)
    (fRet (fIf (fTest (fBin (gEq false) (fBl gLen (fCons (fVar 1) fNil)) (fC (.int 4)))) (fCall f__law_square 2 (fCons (fVar 0) (fCons (fVar 1) fNil))) (fCall f__law_points 2 (fCons (fVar 0) (fCons (fVar 1) fNil))))))))))
def f__law_countable : Fn := pure1 (mkFn 2
  (fRet (fOrV (fBin (gCmp fun i j => decide (i ≤ j)) (fVar 1) (fC (.int 4))) (fBin (gCmp fun i j => decide (i ≤ j)) (fCall f__law_power_v2 2 (fCons (fVar 0) (fCons (fCall f__law_letters 1 (fCons (fVar 1) fNil)) fNil))) (fC (.int 5000))))))
def f__law_one_alone : Fn := deal1 (mkFn 6
  (fThen (fPar 3 4 (fCons (fCall f__law_any 2 (fCons (fVar 0) (fCons (fVar 2) fNil))) (fCons (fComp true (fRng1 (fCons (fVar 2) fNil)) (bName 5) fYes (fC (.int 0)) [5]) fNil)))
    (fThen (fSetIxR (fVar 4) (fVar 3) (fIf (fTest (fBin (gEq false) (fCall f__law_any 2 (fCons (fVar 0) (fCons (fC (.int 2)) fNil))) (fC (.int 0)))) (fBin (gAdd false) (fC (.int 1)) (fCall f__law_any 2 (fCons (fVar 0) (fCons (fBl gMin2 (fCons (fBin gSub (fVar 1) (fC (.int 1))) (fCons (fC (.int 999)) fNil))) fNil)))) (fBin gSub (fVar 1) (fC (.int 1)))))
    (fRet (fBl gTuple (fCons (fVar 4) fNil))))))
def f__law_difference : Fn := deal1 (mkFn 7
  (fThen (fIfS (fOr (fNot (fTest (fCall f__law_countable 2 (fCons (fVar 1) (fCons (fVar 2) fNil))))) (fTest (fBin (gEq false) (fCall f__law_any 2 (fCons (fVar 0) (fCons (fC (.int 3)) fNil))) (fC (.int 0))))) (fRet (fCall f__law_one_alone 3 (fCons (fVar 0) (fCons (fVar 1) (fCons (fVar 2) fNil))))) fNext)
    (fThen (fAsg 3 (fBl (gList true) (fCons (fCall f__law_residues 3 (fCons (fVar 0) (fCons (fVar 1) (fCons (fVar 2) fNil)))) fNil)))
    (fThen (fIfS (fAnd (fTest (fBin (gEq false) (fVar 2) (fC (.int 4)))) (fTest (fBin (gEq false) (fCall f__law_any 2 (fCons (fVar 0) (fCons (fC (.int 2)) fNil))) (fC (.int 0))))) (fThen (fPar 4 5 (fCons (fCall f__law_residues 3 (fCons (fVar 0) (fCons (fVar 1) (fCons (fC (.int 2)) fNil)))) (fCons (fCall f__law_residues 3 (fCons (fVar 0) (fCons (fVar 1) (fCons (fC (.int 2)) fNil)))) fNil)))
    (fAsg 3 (fLst true (fCons (fBin gMod (fBl gInt (fCons (fBin (gMul false) (fBin gIx (fVar 4) (fC (.int 0))) (fBin gIx (fVar 5) (fC (.int 0)))) fNil)) (fVar 1)) (fCons (fBin gMod (fBl gInt (fCons (fBin (gMul false) (fBin gIx (fVar 4) (fC (.int 0))) (fBin gIx (fVar 5) (fC (.int 1)))) fNil)) (fVar 1)) (fCons (fBin gMod (fBl gInt (fCons (fBin (gMul false) (fBin gIx (fVar 4) (fC (.int 1))) (fBin gIx (fVar 5) (fC (.int 0)))) fNil)) (fVar 1)) (fCons (fBin gMod (fBl gInt (fCons (fBin (gMul false) (fBin gIx (fVar 4) (fC (.int 1))) (fBin gIx (fVar 5) (fC (.int 1)))) fNil)) (fVar 1)) fNil))))))) fNext)
    (fThen (fIfS (fKeepT (fTest (fBin (gEq false) (fComp false (fSeq (fVar 3)) (bName 6) (fTest (fBin (gEq true) (fVar 6) (fC (.int 0)))) (fVar 6) [6]) (fLst false fNil)))) (fSetIxR (fVar 3) (fCall f__law_any 2 (fCons (fVar 0) (fCons (fVar 2) fNil))) (fC (.int 1))) fNext)
    (fRet (fBl gTuple (fCons (fVar 3) fNil))))))))
def f__law_row_counted : Fn := deal1 (mkFn 8
  (fThen (fAsg 2 (fCall f__law_any 2 (fCons (fVar 0) (fCons (fC (.int 6)) fNil))))
    (fThen (fIfS (fTest (fBin (gEq false) (fVar 2) (fC (.int 0)))) (fThen (fAsg 3 (fCall f__law_twos 1 (fCons (fCall f__law_any 2 (fCons (fVar 0) (fCons (fC (.int 11)) fNil))) fNil)))
    (fRet (fIf (fTest (fBin (gCmp fun i j => decide (j < i)) (fCall f__law_any 2 (fCons (fVar 0) (fCons (fC (.int 4)) fNil))) (fC (.int 0)))) (fCall f__law_one_alone 3 (fCons (fVar 0) (fCons (fVar 1) (fCons (fVar 3) fNil)))) (fBl gTuple (fCons (fComp false (fRng1 (fCons (fVar 3) fNil)) (bName 7) fYes (fC (.int 0)) [7]) fNil))))) fNext)
    (fThen (fIfS (fTest (fBin (gEq false) (fVar 2) (fC (.int 1)))) (fThen (fUnp (bTup 3 (bCons (bName 4) (bCons (bName 5) (bCons (bName 6) bNil)))) (fCall f__law_residues 3 (fCons (fVar 0) (fCons (fVar 1) (fCons (fC (.int 3)) fNil)))))
    (fRet (fTup (fCons (fVar 4) (fCons (fBin gMod (fBl gInt (fCons (fBin (gAdd false) (fVar 4) (fVar 5)) fNil)) (fVar 1)) (fCons (fBin gMod (fBl gInt (fCons (fBin (gAdd false) (fVar 4) (fVar 6)) fNil)) (fVar 1)) (fCons (fBin gMod (fBl gInt (fCons (fBin (gAdd false) (fBin (gAdd false) (fVar 4) (fVar 5)) (fVar 6)) fNil)) (fVar 1)) fNil))))))) fNext)
    (fThen (fIfS (fTest (fBin (gEq false) (fVar 2) (fC (.int 2)))) (fThen (fUnp (bTup 2 (bCons (bName 4) (bCons (bName 6) bNil))) (fCall f__law_residues 3 (fCons (fVar 0) (fCons (fVar 1) (fCons (fC (.int 2)) fNil)))))
    (fRet (fCall f__law_of 2 (fCons (fVar 0) (fCons (fLst false (fCons (fTup (fCons (fVar 4) fNil)) (fCons (fTup (fCons (fVar 4) (fCons (fVar 6) fNil))) (fCons (fTup (fCons (fVar 4) (fCons (fVar 4) fNil))) (fCons (fTup (fCons (fVar 4) (fCons (fVar 6) (fCons (fVar 4) (fCons (fVar 6) fNil))))) (fCons (fTup (fCons (fVar 4) (fCons (fVar 4) (fCons (fVar 6) (fCons (fVar 6) fNil))))) (fCons (fTup (fCons (fVar 4) (fCons (fVar 4) (fCons (fVar 4) (fCons (fVar 4) fNil))))) (fCons (fTup (fCons (fVar 4) (fCons (fVar 6) (fCons (fVar 6) (fCons (fVar 4) fNil))))) fNil)))))))) fNil))))) fNext)
    (fRet (fCall f__law_difference 3 (fCons (fVar 0) (fCons (fVar 1) (fCons (fC (.int 4)) fNil))))))))))
def f__law_row_of_few : Fn := deal1 (mkFn 6
  (fThen (fUnp (bTup 2 (bCons (bName 1) (bCons (bName 2) bNil))) (fCall f__law_of 2 (fCons (fVar 0) (fCons (fLst false (fCons (fTup (fCons (fC (.int 5)) (fCons (fC (.int 5)) fNil))) (fCons (fTup (fCons (fC (.int 5)) (fCons (fC (.int 4)) fNil))) (fCons (fTup (fCons (fC (.int 7)) (fCons (fC (.int 4)) fNil))) (fCons (fTup (fCons (fC (.int 7)) (fCons (fC (.int 3)) fNil))) (fCons (fTup (fCons (fC (.int 11)) (fCons (fC (.int 3)) fNil))) (fCons (fTup (fCons (fC (.int 13)) (fCons (fC (.int 3)) fNil))) (fCons (fTup (fCons (fC (.int 17)) (fCons (fC (.int 3)) fNil))) fNil)))))))) fNil))))
    (fThen (fAsg 3 (fBl (gList true) (fCons (fCall f__law_residues 3 (fCons (fVar 0) (fCons (fVar 1) (fCons (fCall f__law_twos 1 (fCons (fVar 2) fNil)) fNil)))) fNil)))
    (fThen (fAsg 4 (fCall f__law_any 2 (fCons (fVar 0) (fCons (fC (.int 3)) fNil))))
    (fThen (fFor (fRng1 (fCons (fIf (fTest (fBin (gEq false) (fVar 4) (fC (.int 0)))) (fBl gLen (fCons (fVar 3) fNil)) (fC (.int 0))) fNil)) (bName 5) (fSetIxR (fVar 3) (fVar 5) (fIf (fTest (fBin (gEq false) (fCall f__law_any 2 (fCons (fVar 0) (fCons (fC (.int 3)) fNil))) (fC (.int 0)))) (fBin gMod (fBl gInt (fCons (fBin gIx (fVar 3) (fVar 5)) fNil)) (fVar 1)) (fC (.int 0)))))
    (fThen (fFor (fRng1 (fCons (fIf (fTest (fBin (gEq false) (fVar 4) (fC (.int 1)))) (fBin gDiv (fBl gLen (fCons (fVar 3) fNil)) (fC (.int 2))) (fC (.int 0))) fNil)) (bName 5) (fSetIxR (fVar 3) (fBin (gAdd false) (fBin gDiv (fBl gLen (fCons (fVar 3) fNil)) (fC (.int 2))) (fVar 5)) (fBin gIx (fVar 3) (fVar 5))))
    (fRet (fTup (fCons (fVar 1) (fCons (fBl gTuple (fCons (fVar 3) fNil)) fNil))))))))))
def f_law_k60 : Fn := (mkFn 9
  (fThen (fAsg 1 (fCall f__law_deal 2 (fCons (fVar 0) (fCons (fC (.int 60)) fNil))))
    (fThen (fPar3 2 3 4 (fCons (fLst true fNil) (fCons (fC (.int 5)) (fCons (fTup (fCons (fC (.int 0)) fNil)) fNil))))
    (fThen (fFor (fRng1 (fCons (fC (.int 9)) fNil)) (bName 5) (fThen (fAsg 3 (fCall f__law_prime 1 (fCons (fVar 1) fNil)))
    (fThen (fAsg 4 (fCall f__law_row_counted 2 (fCons (fVar 1) (fCons (fVar 3) fNil))))
    (fDrop (fAppend (fVar 2) (fTup (fCons (fCall f_nought_points 2 (fCons (fVar 3) (fCons (fVar 4) fNil))) (fCons (fCall f__law_noughts 2 (fCons (fVar 3) (fCons (fVar 4) fNil))) fNil))))))))
    (fThen (fFor (fRng1 (fCons (fC (.int 3)) fNil)) (bName 5) (fThen (fUnp (bTup 2 (bCons (bName 6) (bCons (bName 7) bNil))) (fCall f__law_row_of_few 1 (fCons (fVar 1) fNil)))
    (fThen (fAsg 8 (fCall f__law_points 2 (fCons (fVar 6) (fCons (fVar 7) fNil))))
    (fAsg 2 (fBin (gAdd true) (fVar 2) (fLst false (fCons (fTup (fCons (fCall f_nought_points 2 (fCons (fVar 6) (fCons (fVar 7) fNil))) (fCons (fVar 8) fNil))) (fCons (fTup (fCons (fCallK f_nought_points 2 [1, 0] (fCons (fVar 7) (fCons (fVar 6) fNil))) (fCons (fVar 8) fNil))) fNil))))))))
    (fRet (fCall f__law_all 1 (fCons (fBin (gAdd false) (fVar 2) (fLst false (fCons (fTup (fCons (fCall f_nought_points 2 (fCons (fVar 3) (fCons (fVar 4) fNil))) (fCons (fCall f__law_noughts 2 (fCons (fVar 3) (fCons (fVar 4) fNil))) fNil))) (fCons (fTup (fCons (fCallK f_nought_points 2 [0, 1] (fCons (fVar 3) (fCons (fVar 4) fNil))) (fCons (fCall f__law_noughts 2 (fCons (fVar 3) (fCons (fVar 4) fNil))) fNil))) fNil)))) fNil))))))))
end Lb


set_option Elab.async false
set_option linter.all false
set_option maxRecDepth 100000
set_option maxHeartbeats 4000000
/-! K60W: the defs of the text compute what LibS says (printed by gen.py). -/
namespace K60
open Sm Lb
open PySem PySem.Spec PyProof.Rows L2
def topS (i : Nat) : Stmt := PySem.Challenge.pw_shortpapers_k60_noughts_of_spread_rows_c.main.body.getD i (.Pass ⟨0, 0, 0, 0⟩)
/-- the built-ins are not hidden -/
structure Z (mg : Str → Option Value) : Prop where
  abs : mg "abs" = none
  bool : mg "bool" = none
  int : mg "int" = none
  isinstance : mg "isinstance" = none
  len : mg "len" = none
  list : mg "list" = none
  min : mg "min" = none
  range : mg "range" = none
  str : mg "str" = none
  sum : mg "sum" = none
  tuple : mg "tuple" = none
section
variable {P : Program} {w : World} {K : PySem.W.Frag} {mg : Str → Option Value} {base : Heap}
abbrev s_two_steps : Stmt := topS 1
theorem sc_two_steps : FnScope ["number", "found", "size"] ["number"] (defScope s_two_steps) := ⟨rfl, rfl, rfl, by decide +kernel, rfl, by decide +kernel, by decide +kernel⟩
theorem d_two_steps (T : Txt K mg "two_steps" "two_steps" s_two_steps ["number"]) (z : Z mg) :
    Def P w K mg base 1 "two_steps" s_two_steps ["number"] f_two_steps := Def.pure1 (def_of T sc_two_steps (fun _ _ _ _ _ _ _ hr => by
  exact (sss_cons (ss_unp (se_tup (sa_cons se_int (sa_cons se_int sa_nil))) (sg_tup (by rfl) (sgs_cons (sg_name sc_two_steps.nd) (sgs_cons (sg_name sc_two_steps.nd) sgs_nil))))
    (sss_cons (ss_while PassesOwn.never (st_cmp op_lt (op2_cmp _) (se_var 2) (se_var 0) (nomark _)) (sss_one (ss_par (i := 1) (j := 2) (by rfl) sc_two_steps.nd (sa_cons (se_op or_add op2_add (se_var 1) se_int) (sa_cons (se_op or_mul op2_mul se_int (se_var 2)) sa_nil)))))
    (sss_one (ss_ret (se_var 1)))))))
abbrev s_folded : Stmt := topS 3
theorem sc_folded : FnScope ["p", "row", "letter", "half", "at"] ["p", "row", "letter"] (defScope s_folded) := ⟨rfl, rfl, rfl, by decide +kernel, rfl, by decide +kernel, by decide +kernel⟩
theorem d_folded (T : Txt K mg "folded" "folded" s_folded ["p", "row", "letter"]) (z : Z mg) :
    Def P w K mg base 1 "folded" s_folded ["p", "row", "letter"] f_folded := Def.pure1 (def_of T sc_folded (fun _ _ _ _ _ _ _ hr => by
  exact (sss_cons (ss_asg (i := 3) sc_folded.nd (se_op op_fdivW op2_div (se_bl' call_len opn_len (by rfl) z.len (by decide +kernel) (sa_cons (se_var 1) sa_nil)) se_int))
    (sss_one (ss_ret (se_comp false [("at", 4)] (by rfl) sc_folded.nd (N := ["p", "row", "letter", "half", "at"]) (sc := defScope s_folded) (si_range1 (by rfl) z.range (sa_cons (se_var 3) sa_nil)) (by decide +kernel) (fun _ _ _ _ _ => (sg_name sc_folded.nd)) (fun _ _ _ _ _ => sts_nil) (fun _ _ _ _ _ => (se_op op_mod op2_mod (se_op or_add op2_add (se_ix (se_var 1) (se_var 4)) (se_op or_mul op2_mul (se_var 2) (se_op op_sub op2_sub (se_ix (se_var 1) (se_op or_add op2_add (se_var 3) (se_var 4))) (se_ix (se_var 1) (se_var 4))))) (se_var 0))) (by decide)))))))
abbrev s_plain_power : Stmt := topS 5
theorem sc_plain_power : FnScope ["number", "often", "found", "_"] ["number", "often"] (defScope s_plain_power) := ⟨rfl, rfl, rfl, by decide +kernel, rfl, by decide +kernel, by decide +kernel⟩
theorem d_plain_power (T : Txt K mg "plain_power" "plain_power" s_plain_power ["number", "often"]) (z : Z mg) :
    Def P w K mg base 1 "plain_power" s_plain_power ["number", "often"] f_plain_power := Def.pure1 (def_of T sc_plain_power (fun _ _ _ _ _ _ _ hr => by
  exact (sss_cons (ss_asg (i := 2) sc_plain_power.nd se_int)
    (sss_cons (ss_for PassesOwn.never (by rfl) (si_range1 (by rfl) z.range (sa_cons (se_var 1) sa_nil)) (sg_name sc_plain_power.nd) (sss_one (ss_asg (i := 2) sc_plain_power.nd (se_op or_mul op2_mul (se_var 2) (se_var 0)))))
    (sss_one (ss_ret (se_var 2)))))))
abbrev s_letters_in : Stmt := topS 6
theorem sc_letters_in : FnScope ["row"] ["row"] (defScope s_letters_in) := ⟨rfl, rfl, rfl, by decide +kernel, rfl, by decide +kernel, by decide +kernel⟩
theorem d_letters_in (T : Txt K mg "letters_in" "letters_in" s_letters_in ["row"]) (z : Z mg)
    (D_two_steps : Def P w K mg base 1 "two_steps" s_two_steps ["number"] f_two_steps) :
    Def P w K mg base 2 "letters_in" s_letters_in ["row"] f_letters_in := Def.pure1 (def_of T sc_letters_in (fun _ _ _ _ _ _ _ hr => by
  exact (sss_one (ss_ret (se_call D_two_steps (hr.mono (by decide)) (by rfl) (sa_cons (se_bl' call_len opn_len (by rfl) z.len (by decide +kernel) (sa_cons (se_var 0) sa_nil)) sa_nil))))))
abbrev s_inverse : Stmt := topS 8
theorem sc_inverse : FnScope ["p", "one", "high", "low", "share", "other_share", "many"] ["p", "one"] (defScope s_inverse) := ⟨rfl, rfl, rfl, by decide +kernel, rfl, by decide +kernel, by decide +kernel⟩
theorem d_inverse (T : Txt K mg "inverse" "inverse" s_inverse ["p", "one"]) (z : Z mg) :
    Def P w K mg base 1 "inverse" s_inverse ["p", "one"] f_inverse := Def.pure1 (def_of T sc_inverse (fun _ _ _ _ _ _ _ hr => by
  exact (sss_cons (ss_unp (se_tup (sa_cons (se_var 0) (sa_cons (se_var 1) (sa_cons se_int (sa_cons se_int sa_nil))))) (sg_tup (by rfl) (sgs_cons (sg_name sc_inverse.nd) (sgs_cons (sg_name sc_inverse.nd) (sgs_cons (sg_name sc_inverse.nd) (sgs_cons (sg_name sc_inverse.nd) sgs_nil))))))
    (sss_cons (ss_while PassesOwn.never (st_cmp (or_ne hr.units) op2_ne (se_var 3) se_int (nomark _)) (sss_cons (ss_asg (i := 6) sc_inverse.nd (se_op op_fdivW op2_div (se_var 2) (se_var 3)))
    (sss_cons (ss_par (i := 2) (j := 3) (by rfl) sc_inverse.nd (sa_cons (se_var 3) (sa_cons (se_op op_sub op2_sub (se_var 2) (se_op or_mul op2_mul (se_var 6) (se_var 3))) sa_nil)))
    (sss_one (ss_par (i := 4) (j := 5) (by rfl) sc_inverse.nd (sa_cons (se_var 5) (sa_cons (se_op op_sub op2_sub (se_var 4) (se_op or_mul op2_mul (se_var 6) (se_var 5))) sa_nil)))))))
    (sss_one (ss_ret (se_op op_mod op2_mod (se_var 4) (se_var 0))))))))
abbrev s_line_noughts : Stmt := topS 10
theorem sc_line_noughts : FnScope ["p", "low", "high"] ["p", "low", "high"] (defScope s_line_noughts) := ⟨rfl, rfl, rfl, by decide +kernel, rfl, by decide +kernel, by decide +kernel⟩
theorem d_line_noughts (T : Txt K mg "line_noughts" "line_noughts" s_line_noughts ["p", "low", "high"]) (z : Z mg) :
    Def P w K mg base 1 "line_noughts" s_line_noughts ["p", "low", "high"] f_line_noughts := Def.pure1 (def_of T sc_line_noughts (fun _ _ _ _ _ _ _ hr => by
  exact (sss_cons (ss_if (st_cmp (or_ne hr.units) op2_ne (se_var 1) (se_var 2) (nomark _)) (sss_one (ss_ret se_int)) sss_nil)
    (sss_one (ss_ret (se_if (st_cmp (or_eq hr.units) op2_eq (se_var 1) se_int (nomark _)) (se_var 0) se_int))))))
abbrev s_line_nought : Stmt := topS 11
theorem sc_line_nought : FnScope ["p", "low", "high"] ["p", "low", "high"] (defScope s_line_nought) := ⟨rfl, rfl, rfl, by decide +kernel, rfl, by decide +kernel, by decide +kernel⟩
theorem d_line_nought (T : Txt K mg "line_nought" "line_nought" s_line_nought ["p", "low", "high"]) (z : Z mg)
    (D_inverse : Def P w K mg base 1 "inverse" s_inverse ["p", "one"] f_inverse) :
    Def P w K mg base 2 "line_nought" s_line_nought ["p", "low", "high"] f_line_nought := Def.pure1 (def_of T sc_line_nought (fun _ _ _ _ _ _ _ hr => by
  exact (sss_one (ss_ret (se_op op_mod op2_mod (se_op or_mul op2_mul (se_var 1) (se_call D_inverse (hr.mono (by decide)) (by rfl) (sa_cons (se_var 0) (sa_cons (se_op op_mod op2_mod (se_op op_sub op2_sub (se_var 1) (se_var 2)) (se_var 0)) sa_nil)))) (se_var 0))))))
abbrev s_square_noughts : Stmt := topS 12
theorem sc_square_noughts : FnScope ["p", "row", "low", "high", "alike", "there"] ["p", "row"] (defScope s_square_noughts) := ⟨rfl, rfl, rfl, by decide +kernel, rfl, by decide +kernel, by decide +kernel⟩
theorem d_square_noughts (T : Txt K mg "square_noughts" "square_noughts" s_square_noughts ["p", "row"]) (z : Z mg)
    (D_line_nought : Def P w K mg base 2 "line_nought" s_line_nought ["p", "low", "high"] f_line_nought)
    (D_line_noughts : Def P w K mg base 1 "line_noughts" s_line_noughts ["p", "low", "high"] f_line_noughts) :
    Def P w K mg base 3 "square_noughts" s_square_noughts ["p", "row"] f_square_noughts := Def.pure1 (def_of T sc_square_noughts (fun _ _ _ _ _ _ _ hr => by
  exact (sss_cons (ss_par (i := 2) (j := 3) (by rfl) sc_square_noughts.nd (sa_cons (se_op op_sub op2_sub (se_ix (se_var 1) se_int) (se_ix (se_var 1) se_int)) (sa_cons (se_op op_sub op2_sub (se_ix (se_var 1) se_int) (se_ix (se_var 1) se_int)) sa_nil)))
    (sss_cons (ss_if (st_cmp (or_eq hr.units) op2_eq (se_op op_mod op2_mod (se_var 2) (se_var 0)) (se_op op_mod op2_mod (se_var 3) (se_var 0)) (nomark _)) (sss_cons (ss_if (st_cmp (or_ne hr.units) op2_ne (se_op op_mod op2_mod (se_var 2) (se_var 0)) se_int (nomark _)) (sss_one (ss_ret (se_var 0))) sss_nil)
    (sss_one (ss_ret (se_op or_mul op2_mul (se_var 0) (se_call D_line_noughts (hr.mono (by decide)) (by rfl) (sa_cons (se_var 0) (sa_cons (se_ix (se_var 1) se_int) (sa_cons (se_ix (se_var 1) se_int) sa_nil)))))))) sss_nil)
    (sss_cons (ss_asg (i := 4) sc_square_noughts.nd (se_call D_line_nought (hr.mono (by decide)) (by rfl) (sa_cons (se_var 0) (sa_cons (se_op op_mod op2_mod (se_var 2) (se_var 0)) (sa_cons (se_op op_mod op2_mod (se_var 3) (se_var 0)) sa_nil)))))
    (sss_cons (ss_asg (i := 5) sc_square_noughts.nd (se_op op_mod op2_mod (se_op or_add op2_add (se_ix (se_var 1) se_int) (se_op or_mul op2_mul (se_var 4) (se_op op_sub op2_sub (se_ix (se_var 1) se_int) (se_ix (se_var 1) se_int)))) (se_var 0)))
    (sss_one (ss_ret (se_op or_add op2_add (se_op op_sub op2_sub (se_var 0) se_int) (se_if (st_cmp (or_eq hr.units) op2_eq (se_var 5) se_int (nomark _)) (se_var 0) se_int))))))))))
abbrev s_small_noughts : Stmt := topS 13
theorem sc_small_noughts : FnScope ["p", "row"] ["p", "row"] (defScope s_small_noughts) := ⟨rfl, rfl, rfl, by decide +kernel, rfl, by decide +kernel, by decide +kernel⟩
theorem d_small_noughts (T : Txt K mg "small_noughts" "small_noughts" s_small_noughts ["p", "row"]) (z : Z mg)
    (D_line_noughts : Def P w K mg base 1 "line_noughts" s_line_noughts ["p", "low", "high"] f_line_noughts)
    (D_square_noughts : Def P w K mg base 3 "square_noughts" s_square_noughts ["p", "row"] f_square_noughts) :
    Def P w K mg base 4 "small_noughts" s_small_noughts ["p", "row"] f_small_noughts := Def.pure1 (def_of T sc_small_noughts (fun _ _ _ _ _ _ _ hr => by
  exact (sss_cons (ss_if (st_cmp (or_eq hr.units) op2_eq (se_bl' call_len opn_len (by rfl) z.len (by decide +kernel) (sa_cons (se_var 1) sa_nil)) se_int (nomark _)) (sss_one (ss_ret (se_if (st_cmp (or_eq hr.units) op2_eq (se_ix (se_var 1) se_int) se_int (nomark _)) se_int se_int))) sss_nil)
    (sss_cons (ss_if (st_cmp (or_eq hr.units) op2_eq (se_bl' call_len opn_len (by rfl) z.len (by decide +kernel) (sa_cons (se_var 1) sa_nil)) se_int (nomark _)) (sss_one (ss_ret (se_call D_line_noughts (hr.mono (by decide)) (by rfl) (sa_cons (se_var 0) (sa_cons (se_ix (se_var 1) se_int) (sa_cons (se_ix (se_var 1) se_int) sa_nil)))))) sss_nil)
    (sss_one (ss_ret (se_call D_square_noughts (hr.mono (by decide)) (by rfl) (sa_cons (se_var 0) (sa_cons (se_var 1) sa_nil)))))))))
abbrev s_parted : Stmt := topS 14
theorem sc_parted : FnScope ["p", "row", "rows", "one", "letter"] ["p", "row"] (defScope s_parted) := ⟨rfl, rfl, rfl, by decide +kernel, rfl, by decide +kernel, by decide +kernel⟩
theorem d_parted (T : Txt K mg "parted" "parted" s_parted ["p", "row"]) (z : Z mg)
    (D_folded : Def P w K mg base 1 "folded" s_folded ["p", "row", "letter"] f_folded) :
    Def P w K mg base 2 "parted" s_parted ["p", "row"] f_parted := Def.pure1 (def_of T sc_parted (fun _ _ _ _ _ _ _ hr => by
  exact (sss_cons (ss_asg (i := 2) sc_parted.nd (se_lst false (sa_cons (se_ty' call_list_of (opn_list false) (by rfl) z.list (by decide +kernel) (sa_cons (se_var 1) sa_nil)) sa_nil)))
    (sss_cons (ss_while PassesOwn.never (st_cmp op_gt (op2_cmp _) (se_bl' call_len opn_len (by rfl) z.len (by decide +kernel) (sa_cons (se_ix (se_var 2) se_int) sa_nil)) se_int (nomark _)) (sss_one (ss_asgComp2 (i := 2) false [("one", 3), ("letter", 4)] [4] (by rfl) sc_parted.nd (N := ["p", "row", "rows", "one", "letter"]) (sc := defScope s_parted) (si_seq (se_var 2)) (by decide +kernel) (by decide) (fun _ _ _ _ _ => (sg_name sc_parted.nd)) (fun _ _ _ _ _ => sts_nil) (fun _ _ _ _ _ => (si_range1 (by rfl) z.range (sa_cons (se_var 0) sa_nil))) (fun _ _ _ _ _ => (sg_name sc_parted.nd)) (fun _ _ _ _ _ => sts_nil) (fun _ _ _ _ _ => (se_call D_folded (hr.mono (by decide)) (by rfl) (sa_cons (se_var 0) (sa_cons (se_var 3) (sa_cons (se_var 4) sa_nil))))) (by decide) (by decide) (sw_true rfl rfl rfl (by decide +kernel)))))
    (sss_one (ss_ret (se_var 2)))))))
abbrev s_noughts_in : Stmt := topS 15
theorem sc_noughts_in : FnScope ["p", "row", "others", "letters", "number", "one"] ["p", "row"] (defScope s_noughts_in) := ⟨rfl, rfl, rfl, by decide +kernel, rfl, by decide +kernel, by decide +kernel⟩
theorem d_noughts_in (T : Txt K mg "noughts_in" "noughts_in" s_noughts_in ["p", "row"]) (z : Z mg)
    (D_letters_in : Def P w K mg base 2 "letters_in" s_letters_in ["row"] f_letters_in)
    (D_parted : Def P w K mg base 2 "parted" s_parted ["p", "row"] f_parted)
    (D_plain_power : Def P w K mg base 1 "plain_power" s_plain_power ["number", "often"] f_plain_power)
    (D_small_noughts : Def P w K mg base 4 "small_noughts" s_small_noughts ["p", "row"] f_small_noughts) :
    Def P w K mg base 5 "noughts_in" s_noughts_in ["p", "row"] f_noughts_in := Def.pure1 (def_of T sc_noughts_in (fun _ _ _ _ _ _ _ hr => by
  exact (sss_cons (ss_asg (i := 2) sc_noughts_in.nd (se_bl' call_len opn_len (by rfl) z.len (by decide +kernel) (sa_cons (se_comp false [("number", 4)] (by rfl) sc_noughts_in.nd (N := ["p", "row", "others", "letters", "number", "one"]) (sc := defScope s_noughts_in) (si_seq (se_var 1)) (by decide +kernel) (fun _ _ _ _ _ => (sg_name sc_noughts_in.nd)) (fun _ _ _ _ _ => (sts_one (st_cmp (or_ne hr.units) op2_ne (se_var 4) se_int (nomark _)))) (fun _ _ _ _ _ => (se_var 4)) (by decide)) sa_nil)))
    (sss_cons (ss_asg (i := 3) sc_noughts_in.nd (se_call D_letters_in (hr.mono (by decide)) (by rfl) (sa_cons (se_var 1) sa_nil)))
    (sss_cons (ss_if (st_cmp (or_eq hr.units) op2_eq (se_var 2) se_int (nomark _)) (sss_one (ss_ret (se_call D_plain_power (hr.mono (by decide)) (by rfl) (sa_cons (se_var 0) (sa_cons (se_var 3) sa_nil))))) sss_nil)
    (sss_cons (ss_if (st_cmp (or_eq hr.units) op2_eq (se_var 2) se_int (nomark _)) (sss_one (ss_ret (se_op op_sub op2_sub (se_call D_plain_power (hr.mono (by decide)) (by rfl) (sa_cons (se_var 0) (sa_cons (se_var 3) sa_nil))) (se_call D_plain_power (hr.mono (by decide)) (by rfl) (sa_cons (se_op op_sub op2_sub (se_var 0) se_int) (sa_cons (se_var 3) sa_nil)))))) sss_nil)
    (sss_cons (ss_if (st_cmp op_le (op2_cmp _) (se_bl' call_len opn_len (by rfl) z.len (by decide +kernel) (sa_cons (se_var 1) sa_nil)) se_int (nomark _)) (sss_one (ss_ret (se_call D_small_noughts (hr.mono (by decide)) (by rfl) (sa_cons (se_var 0) (sa_cons (se_var 1) sa_nil))))) sss_nil)
    (sss_one (ss_ret (se_bl' (cr_sum (by rfl)) opn_sum (by rfl) z.sum (by decide +kernel) (sa_cons (se_comp false [("one", 5)] (by rfl) sc_noughts_in.nd (N := ["p", "row", "others", "letters", "number", "one"]) (sc := defScope s_noughts_in) (si_seq (se_call D_parted (hr.mono (by decide)) (by rfl) (sa_cons (se_var 0) (sa_cons (se_var 1) sa_nil)))) (by decide +kernel) (fun _ _ _ _ _ => (sg_name sc_noughts_in.nd)) (fun _ _ _ _ _ => sts_nil) (fun _ _ _ _ _ => (se_call D_small_noughts (hr.mono (by decide)) (by rfl) (sa_cons (se_var 0) (sa_cons (se_var 5) sa_nil)))) (by decide)) sa_nil)))))))))))
abbrev s_nought_points : Stmt := topS 17
theorem sc_nought_points : FnScope ["p", "row"] ["p", "row"] (defScope s_nought_points) := ⟨rfl, rfl, rfl, by decide +kernel, rfl, by decide +kernel, by decide +kernel⟩
theorem d_nought_points (T : Txt K mg "nought_points" "nought_points" s_nought_points ["p", "row"]) (z : Z mg)
    (D_noughts_in : Def P w K mg base 5 "noughts_in" s_noughts_in ["p", "row"] f_noughts_in) :
    Def P w K mg base 6 "nought_points" s_nought_points ["p", "row"] f_nought_points := Def.pure1 (def_of T sc_nought_points (fun _ _ _ _ _ _ _ hr => by
  exact (sss_one (ss_ret (se_call D_noughts_in (hr.mono (by decide)) (by rfl) (sa_cons (se_var 0) (sa_cons (se_var 1) sa_nil)))))))
abbrev s__law_deal : Stmt := topS 19
theorem sc__law_deal : FnScope ["script", "salt", "most", "cells", "mix", "cell"] ["script", "salt"] (defScope s__law_deal) := ⟨rfl, rfl, rfl, by decide +kernel, rfl, by decide +kernel, by decide +kernel⟩
theorem d__law_deal (T : Txt K mg "_law_deal" "_law_deal" s__law_deal ["script", "salt"]) (z : Z mg) :
    Def P w K mg base 1 "_law_deal" s__law_deal ["script", "salt"] f__law_deal := (def_of T sc__law_deal (fun _ _ _ _ _ _ _ hr => by
  exact (sss_cons (ss_asg (i := 2) sc__law_deal.nd (se_op or_mul op2_mul (se_op or_mul op2_mul (se_op or_mul op2_mul (se_op or_mul op2_mul (se_op or_mul op2_mul (se_op op_pow op2_pow se_int se_int) (se_op op_pow op2_pow se_int se_int)) (se_op op_pow op2_pow se_int se_int)) (se_op op_pow op2_pow se_int se_int)) (se_op op_pow op2_pow se_int se_int)) (se_op op_pow op2_pow se_int se_int)))
    (sss_cons (ss_asgComp (i := 3) false [("cell", 5)] (by rfl) sc__law_deal.nd (N := ["script", "salt", "most", "cells", "mix", "cell"]) (sc := defScope s__law_deal) (si_seq (se_sl false (se_var 0) so_none (so_some se_int))) (by decide +kernel) (fun _ _ _ _ _ => (sg_name sc__law_deal.nd)) (fun _ _ _ _ _ => sts_nil) (fun _ _ _ _ _ => (se_op op_mod op2_mod (se_ty' call_int1 opn_int (by rfl) z.int (by decide +kernel) (sa_cons (se_bl' call_abs opn_abs (by rfl) z.abs (by decide +kernel) (sa_cons (se_ty' call_int1 opn_int (by rfl) z.int (by decide +kernel) (sa_cons (se_var 5) sa_nil)) sa_nil)) sa_nil)) (se_var 2))) (by decide) (sw_true rfl rfl rfl (by decide +kernel)))
    (sss_cons (ss_asg (i := 4) sc__law_deal.nd (se_op or_add op2_add se_int (se_op or_mul op2_mul se_int (se_var 1))))
    (sss_cons (ss_for PassesOwn.never (by rfl) (si_seq (se_var 3)) (sg_name sc__law_deal.nd) (sss_one (ss_asg (i := 4) sc__law_deal.nd (se_op op_mod op2_mod (se_ty' call_int1 opn_int (by rfl) z.int (by decide +kernel) (sa_cons (se_op or_add op2_add (se_op or_add op2_add (se_op or_mul op2_mul (se_var 4) se_int) (se_op op_mod op2_mod (se_ty' call_int1 opn_int (by rfl) z.int (by decide +kernel) (sa_cons (se_var 5) sa_nil)) se_int)) se_int) sa_nil)) se_int))))
    (sss_one (ss_ret (se_lst true (sa_cons (se_rev true (se_comp false [("cell", 5)] (by rfl) sc__law_deal.nd (N := ["script", "salt", "most", "cells", "mix", "cell"]) (sc := defScope s__law_deal) (si_seq (se_var 3)) (by decide +kernel) (fun _ _ _ _ _ => (sg_name sc__law_deal.nd)) (fun _ _ _ _ _ => (sts_one (st_cmp op_ge (op2_cmp _) (se_var 5) (se_op op_pow op2_pow se_int se_int) (nomark _)))) (fun _ _ _ _ _ => (se_var 5)) (by decide))) (sa_cons (se_var 4) sa_nil)))))))))))
abbrev s__law_any : Stmt := topS 20
theorem sc__law_any : FnScope ["deal", "bound", "rest"] ["deal", "bound"] (defScope s__law_any) := ⟨rfl, rfl, rfl, by decide +kernel, rfl, by decide +kernel, by decide +kernel⟩
theorem d__law_any (T : Txt K mg "_law_any" "_law_any" s__law_any ["deal", "bound"]) (z : Z mg) :
    Def P w K mg base 1 "_law_any" s__law_any ["deal", "bound"] f__law_any := Def.deal1 (def_of T sc__law_any (fun _ _ _ _ _ _ _ hr => by
  exact (sss_cons (ss_while PassesOwn.never (st_w (sw_and (st_cmp (or_ne hr.units) op2_ne (se_ix (se_var 0) se_int) (se_lst false sa_nil) (nomark _)) (sw_and1 (st_cmp (or_eq hr.units) op2_eq (se_ix (se_ix (se_var 0) se_int) (se_un un_neg op1_neg se_int)) se_int (nomark _))))) (sss_one (ss_expr (se_pop (se_ix (se_var 0) se_int)))))
    (sss_cons (ss_if (st_cmp (or_ne hr.units) op2_ne (se_ix (se_var 0) se_int) (se_lst false sa_nil) (nomark _)) (sss_cons (ss_asg (i := 2) sc__law_any.nd (se_ty' call_int1 opn_int (by rfl) z.int (by decide +kernel) (sa_cons (se_pop (se_ix (se_var 0) se_int)) sa_nil)))
    (sss_cons (ss_expr (se_append (se_ix (se_var 0) se_int) (se_op op_fdivW op2_div (se_var 2) (se_var 1))))
    (sss_one (ss_ret (se_op op_mod op2_mod (se_var 2) (se_var 1)))))) sss_nil)
    (sss_cons (ss_setIx (se_op op_mod op2_mod (se_ty' call_int1 opn_int (by rfl) z.int (by decide +kernel) (sa_cons (se_op or_add op2_add (se_op or_mul op2_mul (se_ix (se_var 0) se_int) se_int) se_int) sa_nil)) se_int) (se_var 0) se_int)
    (sss_one (ss_ret (se_op op_mod op2_mod (se_ty' call_int1 opn_int (by rfl) z.int (by decide +kernel) (sa_cons (se_op op_fdivW op2_div (se_ix (se_var 0) se_int) se_int) sa_nil)) (se_var 1)))))))))
abbrev s__law_of : Stmt := topS 21
theorem sc__law_of : FnScope ["deal", "some"] ["deal", "some"] (defScope s__law_of) := ⟨rfl, rfl, rfl, by decide +kernel, rfl, by decide +kernel, by decide +kernel⟩
theorem d__law_of (T : Txt K mg "_law_of" "_law_of" s__law_of ["deal", "some"]) (z : Z mg)
    (D__law_any : Def P w K mg base 1 "_law_any" s__law_any ["deal", "bound"] f__law_any) :
    Def P w K mg base 2 "_law_of" s__law_of ["deal", "some"] f__law_of := Def.deal1 (def_of T sc__law_of (fun _ _ _ _ _ _ _ hr => by
  exact (sss_one (ss_ret (se_ix (se_var 1) (se_call D__law_any (hr.mono (by decide)) (by rfl) (sa_cons (se_var 0) (sa_cons (se_bl' call_len opn_len (by rfl) z.len (by decide +kernel) (sa_cons (se_var 1) sa_nil)) sa_nil))))))))
abbrev s__law_prime : Stmt := topS 22
theorem sc__law_prime : FnScope ["deal", "some"] ["deal"] (defScope s__law_prime) := ⟨rfl, rfl, rfl, by decide +kernel, rfl, by decide +kernel, by decide +kernel⟩
theorem d__law_prime (T : Txt K mg "_law_prime" "_law_prime" s__law_prime ["deal"]) (z : Z mg)
    (D__law_of : Def P w K mg base 2 "_law_of" s__law_of ["deal", "some"] f__law_of) :
    Def P w K mg base 3 "_law_prime" s__law_prime ["deal"] f__law_prime := Def.deal1 (def_of T sc__law_prime (fun _ _ _ _ _ _ _ hr => by
  exact (sss_cons (ss_asg (i := 1) sc__law_prime.nd (se_lst false (sa_cons se_int (sa_cons se_int (sa_cons se_int (sa_cons se_int (sa_cons se_int (sa_cons se_int (sa_cons se_int (sa_cons se_int (sa_cons se_int (sa_cons se_int (sa_cons se_int (sa_cons se_int (sa_cons se_int (sa_cons se_int (sa_cons se_int (sa_cons se_int sa_nil))))))))))))))))))
    (sss_one (ss_ret (se_call D__law_of (hr.mono (by decide)) (by rfl) (sa_cons (se_var 0) (sa_cons (se_op or_add op2_add (se_lst false (sa_cons se_int (sa_cons se_int (sa_cons se_int (sa_cons se_int (sa_cons se_int sa_nil)))))) (se_var 1)) sa_nil))))))))
abbrev s__law_residue : Stmt := topS 23
theorem sc__law_residue : FnScope ["deal", "p", "kind"] ["deal", "p"] (defScope s__law_residue) := ⟨rfl, rfl, rfl, by decide +kernel, rfl, by decide +kernel, by decide +kernel⟩
theorem d__law_residue (T : Txt K mg "_law_residue" "_law_residue" s__law_residue ["deal", "p"]) (z : Z mg)
    (D__law_any : Def P w K mg base 1 "_law_any" s__law_any ["deal", "bound"] f__law_any) :
    Def P w K mg base 2 "_law_residue" s__law_residue ["deal", "p"] f__law_residue := Def.deal1 (def_of T sc__law_residue (fun _ _ _ _ _ _ _ hr => by
  exact (sss_cons (ss_asg (i := 2) sc__law_residue.nd (se_call D__law_any (hr.mono (by decide)) (by rfl) (sa_cons (se_var 0) (sa_cons se_int sa_nil))))
    (sss_cons (ss_if (st_cmp op_lt (op2_cmp _) (se_var 2) se_int (nomark _)) (sss_one (ss_ret (se_ix (se_lst false (sa_cons se_int (sa_cons se_int (sa_cons (se_op op_sub op2_sub (se_var 1) se_int) (sa_cons se_int sa_nil))))) (se_op or_add op2_add (se_op or_mul op2_mul se_int (se_var 2)) (se_call D__law_any (hr.mono (by decide)) (by rfl) (sa_cons (se_var 0) (sa_cons se_int sa_nil))))))) sss_nil)
    (sss_cons (ss_if (st_cmp (or_ne hr.units) op2_ne (se_ix (se_var 0) se_int) (se_lst false sa_nil) (nomark _)) (sss_one (ss_ret (se_call D__law_any (hr.mono (by decide)) (by rfl) (sa_cons (se_var 0) (sa_cons (se_var 1) sa_nil))))) sss_nil)
    (sss_one (ss_ret (se_op op_mod op2_mod (se_ty' call_int1 opn_int (by rfl) z.int (by decide +kernel) (sa_cons (se_op or_add op2_add (se_op or_mul op2_mul (se_call D__law_any (hr.mono (by decide)) (by rfl) (sa_cons (se_var 0) (sa_cons se_int sa_nil))) se_int) (se_call D__law_any (hr.mono (by decide)) (by rfl) (sa_cons (se_var 0) (sa_cons se_int sa_nil)))) sa_nil)) (se_var 1)))))))))
abbrev s__law_residues : Stmt := topS 24
theorem sc__law_residues : FnScope ["deal", "p", "many", "turn"] ["deal", "p", "many"] (defScope s__law_residues) := ⟨rfl, rfl, rfl, by decide +kernel, rfl, by decide +kernel, by decide +kernel⟩
theorem d__law_residues (T : Txt K mg "_law_residues" "_law_residues" s__law_residues ["deal", "p", "many"]) (z : Z mg)
    (D__law_residue : Def P w K mg base 2 "_law_residue" s__law_residue ["deal", "p"] f__law_residue) :
    Def P w K mg base 3 "_law_residues" s__law_residues ["deal", "p", "many"] f__law_residues := Def.deal1 (def_of T sc__law_residues (fun _ _ _ _ _ _ _ hr => by
  exact (sss_one (ss_ret (se_ty' call_tuple_of opn_tuple (by rfl) z.tuple (by decide +kernel) (sa_cons (se_comp false [("turn", 3)] (by rfl) sc__law_residues.nd (N := ["deal", "p", "many", "turn"]) (sc := defScope s__law_residues) (si_range1 (by rfl) z.range (sa_cons (se_var 2) sa_nil)) (by decide +kernel) (fun _ _ _ _ _ => (sg_name sc__law_residues.nd)) (fun _ _ _ _ _ => sts_nil) (fun _ _ _ _ _ => (se_call D__law_residue (hr.mono (by decide)) (by rfl) (sa_cons (se_var 0) (sa_cons (se_var 1) sa_nil)))) (by decide)) sa_nil))))))
abbrev s__law_same : Stmt := topS 25
theorem sc__law_same : FnScope ["told", "due", "at"] ["told", "due"] (defScope s__law_same) := ⟨rfl, rfl, rfl, by decide +kernel, rfl, by decide +kernel, by decide +kernel⟩
theorem e__law_same (T : Txt K mg "_law_same" "_law_same" s__law_same ["told", "due"]) (z : Z mg) : ∀ n : Nat, Def P w K mg base (0 + n) "_law_same" s__law_same ["told", "due"] (r__law_same n)
  | 0 => def_bad T
  | n + 1 => by
    have D__law_same := e__law_same T z n
    exact Def.pure1 (def_of T sc__law_same (fun _ _ _ _ _ _ _ hr => by exact (sss_cons (ss_if (st_val (se_isi "tuple" (se_var 1) (by rfl) z.isinstance (by decide +kernel) (pe_bltn (by rfl) z.tuple (by decide +kernel) rfl))) (sss_cons (ss_if (st_w (sw_or (st_not (st_val (se_isi "tuple" (se_var 0) (by rfl) z.isinstance (by decide +kernel) (pe_bltn (by rfl) z.tuple (by decide +kernel) rfl)))) (sw_or1 (st_cmp (or_ne hr.units) op2_ne (se_bl' call_len opn_len (by rfl) z.len (by decide +kernel) (sa_cons (se_var 0) sa_nil)) (se_bl' call_len opn_len (by rfl) z.len (by decide +kernel) (sa_cons (se_var 1) sa_nil)) (nomark _))))) (sss_one (ss_ret se_bl)) sss_nil)
    (sss_one (ss_ret (se_cmp (or_eq hr.units) op2_eq (se_bl' call_len opn_len (by rfl) z.len (by decide +kernel) (sa_cons (se_comp false [("at", 2)] (by rfl) sc__law_same.nd (N := ["told", "due", "at"]) (sc := defScope s__law_same) (si_range1 (by rfl) z.range (sa_cons (se_bl' call_len opn_len (by rfl) z.len (by decide +kernel) (sa_cons (se_var 1) sa_nil)) sa_nil)) (by decide +kernel) (fun _ _ _ _ _ => (sg_name sc__law_same.nd)) (fun _ _ _ _ _ => (sts_one (st_not (st_val (se_call D__law_same (hr.mono (Nat.le_refl _)) (by rfl) (sa_cons (se_ix (se_var 0) (se_var 2)) (sa_cons (se_ix (se_var 1) (se_var 2)) sa_nil))))))) (fun _ _ _ _ _ => (se_var 2)) (by decide)) sa_nil)) se_int (nomark _))))) sss_nil)
    (sss_cons (ss_if (st_cmp op_isN op2_isN (se_var 1) se_non (nomark _)) (sss_one (ss_ret (se_cmp op_isN op2_isN (se_var 0) se_non (nomark _)))) sss_nil)
    (sss_cons (ss_if (st_w (sw_or (st_cmp op_isX op2_isX (se_var 1) se_bl (nomark _)) (sw_or1 (st_cmp op_isX op2_isX (se_var 1) se_bl (nomark _))))) (sss_one (ss_ret (se_if (st_val (se_var 1)) (se_cmp op_isX op2_isX (se_var 0) se_bl (nomark _)) (se_cmp op_isX op2_isX (se_var 0) se_bl (nomark _))))) sss_nil)
    (sss_cons (ss_if (st_val (se_isi "str" (se_var 1) (by rfl) z.isinstance (by decide +kernel) (pe_bltn (by rfl) z.str (by decide +kernel) rfl))) (sss_one (ss_ret (se_and (se_isi "str" (se_var 0) (by rfl) z.isinstance (by decide +kernel) (pe_bltn (by rfl) z.str (by decide +kernel) rfl)) (se_one (se_cmp (or_eq hr.units) op2_eq (se_var 0) (se_var 1) (nomark _)))))) sss_nil)
    (sss_one (ss_ret (se_and (se_isi "int" (se_var 0) (by rfl) z.isinstance (by decide +kernel) (pe_bltn (by rfl) z.int (by decide +kernel) rfl)) (se_and (se_not (se_isi "bool" (se_var 0) (by rfl) z.isinstance (by decide +kernel) (pe_bltn (by rfl) z.bool (by decide +kernel) rfl))) (se_one (se_cmp (or_eq hr.units) op2_eq (se_var 0) (se_var 1) (nomark _)))))))))))))
theorem d__law_same (T : Txt K mg "_law_same" "_law_same" s__law_same ["told", "due"]) (z : Z mg) : Def P w K mg base 12 "_law_same" s__law_same ["told", "due"] f__law_same := e__law_same T z 12
abbrev s__law_all : Stmt := topS 26
theorem sc__law_all : FnScope ["pairs", "told", "due"] ["pairs"] (defScope s__law_all) := ⟨rfl, rfl, rfl, by decide +kernel, rfl, by decide +kernel, by decide +kernel⟩
theorem d__law_all (T : Txt K mg "_law_all" "_law_all" s__law_all ["pairs"]) (z : Z mg)
    (D__law_same : Def P w K mg base 12 "_law_same" s__law_same ["told", "due"] f__law_same) :
    Def P w K mg base 13 "_law_all" s__law_all ["pairs"] f__law_all := Def.pure1 (def_of T sc__law_all (fun _ _ _ _ _ _ _ hr => by
  exact (sss_one (ss_ret (se_cmp (or_eq hr.units) op2_eq (se_bl' call_len opn_len (by rfl) z.len (by decide +kernel) (sa_cons (se_comp false [("told", 1), ("due", 2)] (by rfl) sc__law_all.nd (N := ["pairs", "told", "due"]) (sc := defScope s__law_all) (si_seq (se_var 0)) (by decide +kernel) (fun _ _ _ _ _ => (sg_tup (by rfl) (sgs_cons (sg_name sc__law_all.nd) (sgs_cons (sg_name sc__law_all.nd) sgs_nil)))) (fun _ _ _ _ _ => (sts_one (st_not (st_val (se_call D__law_same (hr.mono (by decide)) (by rfl) (sa_cons (se_var 1) (sa_cons (se_var 2) sa_nil))))))) (fun _ _ _ _ _ => (se_var 1)) (by decide)) sa_nil)) se_int (nomark _))))))
abbrev s__law_twos : Stmt := topS 27
theorem sc__law_twos : FnScope ["many", "found", "turn"] ["many"] (defScope s__law_twos) := ⟨rfl, rfl, rfl, by decide +kernel, rfl, by decide +kernel, by decide +kernel⟩
theorem d__law_twos (T : Txt K mg "_law_twos" "_law_twos" s__law_twos ["many"]) (z : Z mg) :
    Def P w K mg base 1 "_law_twos" s__law_twos ["many"] f__law_twos := Def.pure1 (def_of T sc__law_twos (fun _ _ _ _ _ _ _ hr => by
  exact (sss_cons (ss_asg (i := 1) sc__law_twos.nd se_int)
    (sss_cons (ss_for PassesOwn.never (by rfl) (si_range1 (by rfl) z.range (sa_cons (se_var 0) sa_nil)) (sg_name sc__law_twos.nd) (sss_one (ss_asg (i := 1) sc__law_twos.nd (se_op or_mul op2_mul se_int (se_var 1)))))
    (sss_one (ss_ret (se_var 1)))))))
abbrev s__law_letters : Stmt := topS 28
theorem sc__law_letters : FnScope ["many", "found", "power"] ["many"] (defScope s__law_letters) := ⟨rfl, rfl, rfl, by decide +kernel, rfl, by decide +kernel, by decide +kernel⟩
theorem d__law_letters (T : Txt K mg "_law_letters" "_law_letters" s__law_letters ["many"]) (z : Z mg) :
    Def P w K mg base 1 "_law_letters" s__law_letters ["many"] f__law_letters := Def.pure1 (def_of T sc__law_letters (fun _ _ _ _ _ _ _ hr => by
  exact (sss_cons (ss_unp (se_tup (sa_cons se_int (sa_cons se_int sa_nil))) (sg_tup (by rfl) (sgs_cons (sg_name sc__law_letters.nd) (sgs_cons (sg_name sc__law_letters.nd) sgs_nil))))
    (sss_cons (ss_while PassesOwn.never (st_cmp op_lt (op2_cmp _) (se_var 2) (se_var 0) (nomark _)) (sss_one (ss_par (i := 1) (j := 2) (by rfl) sc__law_letters.nd (sa_cons (se_op or_add op2_add (se_var 1) se_int) (sa_cons (se_op or_mul op2_mul se_int (se_var 2)) sa_nil)))))
    (sss_one (ss_ret (se_var 1)))))))
abbrev s__law_line : Stmt := topS 29
theorem sc__law_line : FnScope ["p", "low", "high", "at", "k"] ["p", "low", "high", "at"] (defScope s__law_line) := ⟨rfl, rfl, rfl, by decide +kernel, rfl, by decide +kernel, by decide +kernel⟩
theorem d__law_line (T : Txt K mg "_law_line" "_law_line" s__law_line ["p", "low", "high", "at"]) (z : Z mg) :
    Def P w K mg base 1 "_law_line" s__law_line ["p", "low", "high", "at"] f__law_line := Def.pure1 (def_of T sc__law_line (fun _ _ _ _ _ _ _ hr => by
  exact (sss_one (ss_ret (se_comp false [("k", 4)] (by rfl) sc__law_line.nd (N := ["p", "low", "high", "at", "k"]) (sc := defScope s__law_line) (si_range1 (by rfl) z.range (sa_cons (se_bl' call_len opn_len (by rfl) z.len (by decide +kernel) (sa_cons (se_var 1) sa_nil)) sa_nil)) (by decide +kernel) (fun _ _ _ _ _ => (sg_name sc__law_line.nd)) (fun _ _ _ _ _ => sts_nil) (fun _ _ _ _ _ => (se_op op_mod op2_mod (se_ty' call_int1 opn_int (by rfl) z.int (by decide +kernel) (sa_cons (se_op or_add op2_add (se_ix (se_var 1) (se_var 4)) (se_op or_mul op2_mul (se_var 3) (se_op op_sub op2_sub (se_ix (se_var 2) (se_var 4)) (se_ix (se_var 1) (se_var 4))))) sa_nil)) (se_var 0))) (by decide))))))
abbrev s__law_power : Stmt := topS 30
theorem sc__law_power : FnScope ["number", "often", "found", "turn"] ["number", "often"] (defScope s__law_power) := ⟨rfl, rfl, rfl, by decide +kernel, rfl, by decide +kernel, by decide +kernel⟩
theorem d__law_power (T : Txt K mg "_law_power" "_law_power" s__law_power ["number", "often"]) (z : Z mg) :
    Def P w K mg base 1 "_law_power" s__law_power ["number", "often"] f__law_power_v2 := Def.pure1 (def_of T sc__law_power (fun _ _ _ _ _ _ _ hr => by
  exact (sss_cons (ss_asg (i := 2) sc__law_power.nd se_int)
    (sss_cons (ss_for PassesOwn.never (by rfl) (si_range1 (by rfl) z.range (sa_cons (se_var 1) sa_nil)) (sg_name sc__law_power.nd) (sss_one (ss_asg (i := 2) sc__law_power.nd (se_op or_mul op2_mul (se_var 2) (se_var 0)))))
    (sss_one (ss_ret (se_var 2)))))))
abbrev s__law_points : Stmt := topS 31
theorem sc__law_points : FnScope ["p", "row", "left", "turn", "more", "part", "half", "letter"] ["p", "row"] (defScope s__law_points) := ⟨rfl, rfl, rfl, by decide +kernel, rfl, by decide +kernel, by decide +kernel⟩
theorem d__law_points (T : Txt K mg "_law_points" "_law_points" s__law_points ["p", "row"]) (z : Z mg)
    (D__law_letters : Def P w K mg base 1 "_law_letters" s__law_letters ["many"] f__law_letters)
    (D__law_line : Def P w K mg base 1 "_law_line" s__law_line ["p", "low", "high", "at"] f__law_line) :
    Def P w K mg base 2 "_law_points" s__law_points ["p", "row"] f__law_points := Def.pure1 (def_of T sc__law_points (fun _ _ _ _ _ _ _ hr => by
  exact (sss_cons (ss_asg (i := 2) sc__law_points.nd (se_lst false (sa_cons (se_ty' call_list_of (opn_list false) (by rfl) z.list (by decide +kernel) (sa_cons (se_var 1) sa_nil)) sa_nil)))
    (sss_cons (ss_for PassesOwn.never (by rfl) (si_range1 (by rfl) z.range (sa_cons (se_call D__law_letters (hr.mono (by decide)) (by rfl) (sa_cons (se_bl' call_len opn_len (by rfl) z.len (by decide +kernel) (sa_cons (se_var 1) sa_nil)) sa_nil)) sa_nil)) (sg_name sc__law_points.nd) (sss_cons (ss_asg (i := 4) sc__law_points.nd (se_lst true sa_nil))
    (sss_cons (ss_for PassesOwn.never (by rfl) (si_seq (se_var 2)) (sg_name sc__law_points.nd) (sss_cons (ss_asg (i := 6) sc__law_points.nd (se_op op_fdivW op2_div (se_bl' call_len opn_len (by rfl) z.len (by decide +kernel) (sa_cons (se_var 5) sa_nil)) se_int))
    (sss_one (ss_for PassesOwn.never (by rfl) (si_range1 (by rfl) z.range (sa_cons (se_var 0) sa_nil)) (sg_name sc__law_points.nd) (sss_one (ss_expr (se_append (se_var 4) (se_call D__law_line (hr.mono (by decide)) (by rfl) (sa_cons (se_var 0) (sa_cons (se_sl false (se_var 5) so_none (so_some (se_var 6))) (sa_cons (se_sl false (se_var 5) (so_some (se_var 6)) so_none) (sa_cons (se_var 7) sa_nil))))))))))))
    (sss_one (ss_asg (i := 2) sc__law_points.nd (se_var 4))))))
    (sss_one (ss_ret (se_bl' call_len opn_len (by rfl) z.len (by decide +kernel) (sa_cons (se_comp false [("part", 5)] (by rfl) sc__law_points.nd (N := ["p", "row", "left", "turn", "more", "part", "half", "letter"]) (sc := defScope s__law_points) (si_seq (se_var 2)) (by decide +kernel) (fun _ _ _ _ _ => (sg_name sc__law_points.nd)) (fun _ _ _ _ _ => (sts_one (st_cmp (or_eq hr.units) op2_eq (se_ix (se_var 5) se_int) se_int (nomark _)))) (fun _ _ _ _ _ => (se_var 5)) (by decide)) sa_nil))))))))
abbrev s__law_square : Stmt := topS 32
theorem sc__law_square : FnScope ["p", "row", "first", "by_one", "by_other", "both"] ["p", "row"] (defScope s__law_square) := ⟨rfl, rfl, rfl, by decide +kernel, rfl, by decide +kernel, by decide +kernel⟩
theorem d__law_square (T : Txt K mg "_law_square" "_law_square" s__law_square ["p", "row"]) (z : Z mg) :
    Def P w K mg base 1 "_law_square" s__law_square ["p", "row"] f__law_square := Def.pure1 (def_of T sc__law_square (fun _ _ _ _ _ _ _ hr => by
  exact (sss_cons (ss_par3 (i := 2) (j := 3) (l := 4) (by rfl) sc__law_square.nd (sa_cons (se_ix (se_var 1) se_int) (sa_cons (se_op op_sub op2_sub (se_ix (se_var 1) se_int) (se_ix (se_var 1) se_int)) (sa_cons (se_op op_sub op2_sub (se_ix (se_var 1) se_int) (se_ix (se_var 1) se_int)) sa_nil))))
    (sss_cons (ss_asg (i := 5) sc__law_square.nd (se_op op_mod op2_mod (se_ty' call_int1 opn_int (by rfl) z.int (by decide +kernel) (sa_cons (se_op or_add op2_add (se_op op_sub op2_sub (se_op op_sub op2_sub (se_ix (se_var 1) se_int) (se_ix (se_var 1) se_int)) (se_ix (se_var 1) se_int)) (se_ix (se_var 1) se_int)) sa_nil)) (se_var 0)))
    (sss_cons (ss_if (st_cmp (or_ne hr.units) op2_ne (se_var 5) se_int (nomark _)) (sss_one (ss_ret (se_if (st_cmp (or_eq hr.units) op2_eq (se_op op_mod op2_mod (se_ty' call_int1 opn_int (by rfl) z.int (by decide +kernel) (sa_cons (se_op op_sub op2_sub (se_op or_mul op2_mul (se_var 2) (se_var 5)) (se_op or_mul op2_mul (se_var 3) (se_var 4))) sa_nil)) (se_var 0)) se_int (nomark _)) (se_op op_sub op2_sub (se_op or_mul op2_mul se_int (se_var 0)) se_int) (se_op op_sub op2_sub (se_var 0) se_int)))) sss_nil)
    (sss_cons (ss_if (st_w (sw_or (st_cmp (or_ne hr.units) op2_ne (se_op op_mod op2_mod (se_ty' call_int1 opn_int (by rfl) z.int (by decide +kernel) (sa_cons (se_var 3) sa_nil)) (se_var 0)) se_int (nomark _)) (sw_or1 (st_cmp (or_ne hr.units) op2_ne (se_op op_mod op2_mod (se_ty' call_int1 opn_int (by rfl) z.int (by decide +kernel) (sa_cons (se_var 4) sa_nil)) (se_var 0)) se_int (nomark _))))) (sss_one (ss_ret (se_var 0))) sss_nil)
    (sss_one (ss_ret (se_if (st_cmp (or_eq hr.units) op2_eq (se_var 2) se_int (nomark _)) (se_op or_mul op2_mul (se_var 0) (se_var 0)) se_int)))))))))
abbrev s__law_noughts : Stmt := topS 33
theorem sc__law_noughts : FnScope ["p", "row", "letters", "some", "entry"] ["p", "row"] (defScope s__law_noughts) := ⟨rfl, rfl, rfl, by decide +kernel, rfl, by decide +kernel, by decide +kernel⟩
theorem d__law_noughts (T : Txt K mg "_law_noughts" "_law_noughts" s__law_noughts ["p", "row"]) (z : Z mg)
    (D__law_letters : Def P w K mg base 1 "_law_letters" s__law_letters ["many"] f__law_letters)
    (D__law_points : Def P w K mg base 2 "_law_points" s__law_points ["p", "row"] f__law_points)
    (D__law_power : Def P w K mg base 1 "_law_power" s__law_power ["number", "often"] f__law_power_v2)
    (D__law_square : Def P w K mg base 1 "_law_square" s__law_square ["p", "row"] f__law_square) :
    Def P w K mg base 3 "_law_noughts" s__law_noughts ["p", "row"] f__law_noughts := Def.pure1 (def_of T sc__law_noughts (fun _ _ _ _ _ _ _ hr => by
  exact (sss_cons (ss_par (i := 2) (j := 3) (by rfl) sc__law_noughts.nd (sa_cons (se_call D__law_letters (hr.mono (by decide)) (by rfl) (sa_cons (se_bl' call_len opn_len (by rfl) z.len (by decide +kernel) (sa_cons (se_var 1) sa_nil)) sa_nil)) (sa_cons (se_comp false [("entry", 4)] (by rfl) sc__law_noughts.nd (N := ["p", "row", "letters", "some", "entry"]) (sc := defScope s__law_noughts) (si_seq (se_var 1)) (by decide +kernel) (fun _ _ _ _ _ => (sg_name sc__law_noughts.nd)) (fun _ _ _ _ _ => (sts_one (st_cmp (or_ne hr.units) op2_ne (se_var 4) se_int (nomark _)))) (fun _ _ _ _ _ => (se_var 4)) (by decide)) sa_nil)))
    (sss_cons (ss_if (st_cmp (or_eq hr.units) op2_eq (se_var 3) (se_lst false sa_nil) (nomark _)) (sss_one (ss_ret (se_call D__law_power (hr.mono (by decide)) (by rfl) (sa_cons (se_var 0) (sa_cons (se_var 2) sa_nil))))) sss_nil)
    (sss_cons (ss_if (st_cmp (or_eq hr.units) op2_eq (se_bl' call_len opn_len (by rfl) z.len (by decide +kernel) (sa_cons (se_var 3) sa_nil)) se_int (nomark _)) (sss_one (ss_ret (se_op op_sub op2_sub (se_call D__law_power (hr.mono (by decide)) (by rfl) (sa_cons (se_var 0) (sa_cons (se_var 2) sa_nil))) (se_call D__law_power (hr.mono (by decide)) (by rfl) (sa_cons (se_op op_sub op2_sub (se_var 0) se_int) (sa_cons (se_var 2) sa_nil)))))) sss_nil)
    (sss_cons (ss_if (st_cmp (or_eq hr.units) op2_eq (se_bl' call_len opn_len (by rfl) z.len (by decide +kernel) (sa_cons (se_var 1) sa_nil)) se_int (nomark _)) (sss_one (ss_ret (se_if (st_cmp (or_eq hr.units) op2_eq (se_ix (se_var 1) se_int) (se_ix (se_var 1) se_int) (nomark _)) se_int se_int))) sss_nil)
    (sss_one (ss_ret (se_if (st_cmp (or_eq hr.units) op2_eq (se_bl' call_len opn_len (by rfl) z.len (by decide +kernel) (sa_cons (se_var 1) sa_nil)) se_int (nomark _)) (se_call D__law_square (hr.mono (by decide)) (by rfl) (sa_cons (se_var 0) (sa_cons (se_var 1) sa_nil))) (se_call D__law_points (hr.mono (by decide)) (by rfl) (sa_cons (se_var 0) (sa_cons (se_var 1) sa_nil))))))))))))
abbrev s__law_countable : Stmt := topS 34
theorem sc__law_countable : FnScope ["p", "many"] ["p", "many"] (defScope s__law_countable) := ⟨rfl, rfl, rfl, by decide +kernel, rfl, by decide +kernel, by decide +kernel⟩
theorem d__law_countable (T : Txt K mg "_law_countable" "_law_countable" s__law_countable ["p", "many"]) (z : Z mg)
    (D__law_letters : Def P w K mg base 1 "_law_letters" s__law_letters ["many"] f__law_letters)
    (D__law_power : Def P w K mg base 1 "_law_power" s__law_power ["number", "often"] f__law_power_v2) :
    Def P w K mg base 2 "_law_countable" s__law_countable ["p", "many"] f__law_countable := Def.pure1 (def_of T sc__law_countable (fun _ _ _ _ _ _ _ hr => by
  exact (sss_one (ss_ret (se_or (se_cmp op_le (op2_cmp _) (se_var 1) se_int (nomark _)) (se_one (se_cmp op_le (op2_cmp _) (se_call D__law_power (hr.mono (by decide)) (by rfl) (sa_cons (se_var 0) (sa_cons (se_call D__law_letters (hr.mono (by decide)) (by rfl) (sa_cons (se_var 1) sa_nil)) sa_nil))) se_int (nomark _))))))))
abbrev s__law_one_alone : Stmt := topS 35
theorem sc__law_one_alone : FnScope ["deal", "p", "many", "at", "found", "spot"] ["deal", "p", "many"] (defScope s__law_one_alone) := ⟨rfl, rfl, rfl, by decide +kernel, rfl, by decide +kernel, by decide +kernel⟩
theorem d__law_one_alone (T : Txt K mg "_law_one_alone" "_law_one_alone" s__law_one_alone ["deal", "p", "many"]) (z : Z mg)
    (D__law_any : Def P w K mg base 1 "_law_any" s__law_any ["deal", "bound"] f__law_any) :
    Def P w K mg base 2 "_law_one_alone" s__law_one_alone ["deal", "p", "many"] f__law_one_alone := Def.deal1 (def_of T sc__law_one_alone (fun _ _ _ _ _ _ _ hr => by
  exact (sss_cons (ss_par (i := 3) (j := 4) (by rfl) sc__law_one_alone.nd (sa_cons (se_call D__law_any (hr.mono (by decide)) (by rfl) (sa_cons (se_var 0) (sa_cons (se_var 2) sa_nil))) (sa_cons (se_comp true [("spot", 5)] (by rfl) sc__law_one_alone.nd (N := ["deal", "p", "many", "at", "found", "spot"]) (sc := defScope s__law_one_alone) (si_range1 (by rfl) z.range (sa_cons (se_var 2) sa_nil)) (by decide +kernel) (fun _ _ _ _ _ => (sg_name sc__law_one_alone.nd)) (fun _ _ _ _ _ => sts_nil) (fun _ _ _ _ _ => se_int) (by decide)) sa_nil)))
    (sss_cons (ss_setIx (se_if (st_cmp (or_eq hr.units) op2_eq (se_call D__law_any (hr.mono (by decide)) (by rfl) (sa_cons (se_var 0) (sa_cons se_int sa_nil))) se_int (nomark _)) (se_op or_add op2_add se_int (se_call D__law_any (hr.mono (by decide)) (by rfl) (sa_cons (se_var 0) (sa_cons (se_bl' (call_min2 (by rfl)) opn_min2 (by rfl) z.min (by decide +kernel) (sa_cons (se_op op_sub op2_sub (se_var 1) se_int) (sa_cons se_int sa_nil))) sa_nil)))) (se_op op_sub op2_sub (se_var 1) se_int)) (se_var 4) (se_var 3))
    (sss_one (ss_ret (se_ty' call_tuple_of opn_tuple (by rfl) z.tuple (by decide +kernel) (sa_cons (se_var 4) sa_nil))))))))
abbrev s__law_difference : Stmt := topS 36
theorem sc__law_difference : FnScope ["deal", "p", "many", "found", "one", "other", "entry"] ["deal", "p", "many"] (defScope s__law_difference) := ⟨rfl, rfl, rfl, by decide +kernel, rfl, by decide +kernel, by decide +kernel⟩
theorem d__law_difference (T : Txt K mg "_law_difference" "_law_difference" s__law_difference ["deal", "p", "many"]) (z : Z mg)
    (D__law_any : Def P w K mg base 1 "_law_any" s__law_any ["deal", "bound"] f__law_any)
    (D__law_countable : Def P w K mg base 2 "_law_countable" s__law_countable ["p", "many"] f__law_countable)
    (D__law_one_alone : Def P w K mg base 2 "_law_one_alone" s__law_one_alone ["deal", "p", "many"] f__law_one_alone)
    (D__law_residues : Def P w K mg base 3 "_law_residues" s__law_residues ["deal", "p", "many"] f__law_residues) :
    Def P w K mg base 4 "_law_difference" s__law_difference ["deal", "p", "many"] f__law_difference := Def.deal1 (def_of T sc__law_difference (fun _ _ _ _ _ _ _ hr => by
  exact (sss_cons (ss_if (st_w (sw_or (st_not (st_val (se_call D__law_countable (hr.mono (by decide)) (by rfl) (sa_cons (se_var 1) (sa_cons (se_var 2) sa_nil))))) (sw_or1 (st_cmp (or_eq hr.units) op2_eq (se_call D__law_any (hr.mono (by decide)) (by rfl) (sa_cons (se_var 0) (sa_cons se_int sa_nil))) se_int (nomark _))))) (sss_one (ss_ret (se_call D__law_one_alone (hr.mono (by decide)) (by rfl) (sa_cons (se_var 0) (sa_cons (se_var 1) (sa_cons (se_var 2) sa_nil)))))) sss_nil)
    (sss_cons (ss_asg (i := 3) sc__law_difference.nd (se_ty' call_list_of (opn_list true) (by rfl) z.list (by decide +kernel) (sa_cons (se_call D__law_residues (hr.mono (by decide)) (by rfl) (sa_cons (se_var 0) (sa_cons (se_var 1) (sa_cons (se_var 2) sa_nil)))) sa_nil)))
    (sss_cons (ss_if (st_w (sw_and (st_cmp (or_eq hr.units) op2_eq (se_var 2) se_int (nomark _)) (sw_and1 (st_cmp (or_eq hr.units) op2_eq (se_call D__law_any (hr.mono (by decide)) (by rfl) (sa_cons (se_var 0) (sa_cons se_int sa_nil))) se_int (nomark _))))) (sss_cons (ss_par (i := 4) (j := 5) (by rfl) sc__law_difference.nd (sa_cons (se_call D__law_residues (hr.mono (by decide)) (by rfl) (sa_cons (se_var 0) (sa_cons (se_var 1) (sa_cons se_int sa_nil)))) (sa_cons (se_call D__law_residues (hr.mono (by decide)) (by rfl) (sa_cons (se_var 0) (sa_cons (se_var 1) (sa_cons se_int sa_nil)))) sa_nil)))
    (sss_one (ss_asg (i := 3) sc__law_difference.nd (se_lst true (sa_cons (se_op op_mod op2_mod (se_ty' call_int1 opn_int (by rfl) z.int (by decide +kernel) (sa_cons (se_op or_mul op2_mul (se_ix (se_var 4) se_int) (se_ix (se_var 5) se_int)) sa_nil)) (se_var 1)) (sa_cons (se_op op_mod op2_mod (se_ty' call_int1 opn_int (by rfl) z.int (by decide +kernel) (sa_cons (se_op or_mul op2_mul (se_ix (se_var 4) se_int) (se_ix (se_var 5) se_int)) sa_nil)) (se_var 1)) (sa_cons (se_op op_mod op2_mod (se_ty' call_int1 opn_int (by rfl) z.int (by decide +kernel) (sa_cons (se_op or_mul op2_mul (se_ix (se_var 4) se_int) (se_ix (se_var 5) se_int)) sa_nil)) (se_var 1)) (sa_cons (se_op op_mod op2_mod (se_ty' call_int1 opn_int (by rfl) z.int (by decide +kernel) (sa_cons (se_op or_mul op2_mul (se_ix (se_var 4) se_int) (se_ix (se_var 5) se_int)) sa_nil)) (se_var 1)) sa_nil)))))))) sss_nil)
    (sss_cons (ss_if (st_keep (st_cmp (or_eq hr.units) op2_eq (se_comp false [("entry", 6)] (by rfl) sc__law_difference.nd (N := ["deal", "p", "many", "found", "one", "other", "entry"]) (sc := defScope s__law_difference) (si_seq (se_var 3)) (by decide +kernel) (fun _ _ _ _ _ => (sg_name sc__law_difference.nd)) (fun _ _ _ _ _ => (sts_one (st_cmp (or_ne hr.units) op2_ne (se_var 6) se_int (nomark _)))) (fun _ _ _ _ _ => (se_var 6)) (by decide)) (se_lst false sa_nil) (nomark _))) (sss_one (ss_setIx se_int (se_var 3) (se_call D__law_any (hr.mono (by decide)) (by rfl) (sa_cons (se_var 0) (sa_cons (se_var 2) sa_nil))))) sss_nil)
    (sss_one (ss_ret (se_ty' call_tuple_of opn_tuple (by rfl) z.tuple (by decide +kernel) (sa_cons (se_var 3) sa_nil))))))))))
abbrev s__law_row_counted : Stmt := topS 37
theorem sc__law_row_counted : FnScope ["deal", "p", "kind", "many", "one", "more", "other", "spot"] ["deal", "p"] (defScope s__law_row_counted) := ⟨rfl, rfl, rfl, by decide +kernel, rfl, by decide +kernel, by decide +kernel⟩
theorem d__law_row_counted (T : Txt K mg "_law_row_counted" "_law_row_counted" s__law_row_counted ["deal", "p"]) (z : Z mg)
    (D__law_any : Def P w K mg base 1 "_law_any" s__law_any ["deal", "bound"] f__law_any)
    (D__law_difference : Def P w K mg base 4 "_law_difference" s__law_difference ["deal", "p", "many"] f__law_difference)
    (D__law_of : Def P w K mg base 2 "_law_of" s__law_of ["deal", "some"] f__law_of)
    (D__law_one_alone : Def P w K mg base 2 "_law_one_alone" s__law_one_alone ["deal", "p", "many"] f__law_one_alone)
    (D__law_residues : Def P w K mg base 3 "_law_residues" s__law_residues ["deal", "p", "many"] f__law_residues)
    (D__law_twos : Def P w K mg base 1 "_law_twos" s__law_twos ["many"] f__law_twos) :
    Def P w K mg base 5 "_law_row_counted" s__law_row_counted ["deal", "p"] f__law_row_counted := Def.deal1 (def_of T sc__law_row_counted (fun _ _ _ _ _ _ _ hr => by
  exact (sss_cons (ss_asg (i := 2) sc__law_row_counted.nd (se_call D__law_any (hr.mono (by decide)) (by rfl) (sa_cons (se_var 0) (sa_cons se_int sa_nil))))
    (sss_cons (ss_if (st_cmp (or_eq hr.units) op2_eq (se_var 2) se_int (nomark _)) (sss_cons (ss_asg (i := 3) sc__law_row_counted.nd (se_call D__law_twos (hr.mono (by decide)) (by rfl) (sa_cons (se_call D__law_any (hr.mono (by decide)) (by rfl) (sa_cons (se_var 0) (sa_cons se_int sa_nil))) sa_nil)))
    (sss_one (ss_ret (se_if (st_cmp op_gt (op2_cmp _) (se_call D__law_any (hr.mono (by decide)) (by rfl) (sa_cons (se_var 0) (sa_cons se_int sa_nil))) se_int (nomark _)) (se_call D__law_one_alone (hr.mono (by decide)) (by rfl) (sa_cons (se_var 0) (sa_cons (se_var 1) (sa_cons (se_var 3) sa_nil)))) (se_ty' call_tuple_of opn_tuple (by rfl) z.tuple (by decide +kernel) (sa_cons (se_comp false [("spot", 7)] (by rfl) sc__law_row_counted.nd (N := ["deal", "p", "kind", "many", "one", "more", "other", "spot"]) (sc := defScope s__law_row_counted) (si_range1 (by rfl) z.range (sa_cons (se_var 3) sa_nil)) (by decide +kernel) (fun _ _ _ _ _ => (sg_name sc__law_row_counted.nd)) (fun _ _ _ _ _ => sts_nil) (fun _ _ _ _ _ => se_int) (by decide)) sa_nil)))))) sss_nil)
    (sss_cons (ss_if (st_cmp (or_eq hr.units) op2_eq (se_var 2) se_int (nomark _)) (sss_cons (ss_unp (se_call D__law_residues (hr.mono (by decide)) (by rfl) (sa_cons (se_var 0) (sa_cons (se_var 1) (sa_cons se_int sa_nil)))) (sg_tup (by rfl) (sgs_cons (sg_name sc__law_row_counted.nd) (sgs_cons (sg_name sc__law_row_counted.nd) (sgs_cons (sg_name sc__law_row_counted.nd) sgs_nil)))))
    (sss_one (ss_ret (se_tup (sa_cons (se_var 4) (sa_cons (se_op op_mod op2_mod (se_ty' call_int1 opn_int (by rfl) z.int (by decide +kernel) (sa_cons (se_op or_add op2_add (se_var 4) (se_var 5)) sa_nil)) (se_var 1)) (sa_cons (se_op op_mod op2_mod (se_ty' call_int1 opn_int (by rfl) z.int (by decide +kernel) (sa_cons (se_op or_add op2_add (se_var 4) (se_var 6)) sa_nil)) (se_var 1)) (sa_cons (se_op op_mod op2_mod (se_ty' call_int1 opn_int (by rfl) z.int (by decide +kernel) (sa_cons (se_op or_add op2_add (se_op or_add op2_add (se_var 4) (se_var 5)) (se_var 6)) sa_nil)) (se_var 1)) sa_nil)))))))) sss_nil)
    (sss_cons (ss_if (st_cmp (or_eq hr.units) op2_eq (se_var 2) se_int (nomark _)) (sss_cons (ss_unp (se_call D__law_residues (hr.mono (by decide)) (by rfl) (sa_cons (se_var 0) (sa_cons (se_var 1) (sa_cons se_int sa_nil)))) (sg_tup (by rfl) (sgs_cons (sg_name sc__law_row_counted.nd) (sgs_cons (sg_name sc__law_row_counted.nd) sgs_nil))))
    (sss_one (ss_ret (se_call D__law_of (hr.mono (by decide)) (by rfl) (sa_cons (se_var 0) (sa_cons (se_lst false (sa_cons (se_tup (sa_cons (se_var 4) sa_nil)) (sa_cons (se_tup (sa_cons (se_var 4) (sa_cons (se_var 6) sa_nil))) (sa_cons (se_tup (sa_cons (se_var 4) (sa_cons (se_var 4) sa_nil))) (sa_cons (se_tup (sa_cons (se_var 4) (sa_cons (se_var 6) (sa_cons (se_var 4) (sa_cons (se_var 6) sa_nil))))) (sa_cons (se_tup (sa_cons (se_var 4) (sa_cons (se_var 4) (sa_cons (se_var 6) (sa_cons (se_var 6) sa_nil))))) (sa_cons (se_tup (sa_cons (se_var 4) (sa_cons (se_var 4) (sa_cons (se_var 4) (sa_cons (se_var 4) sa_nil))))) (sa_cons (se_tup (sa_cons (se_var 4) (sa_cons (se_var 6) (sa_cons (se_var 6) (sa_cons (se_var 4) sa_nil))))) sa_nil)))))))) sa_nil)))))) sss_nil)
    (sss_one (ss_ret (se_call D__law_difference (hr.mono (by decide)) (by rfl) (sa_cons (se_var 0) (sa_cons (se_var 1) (sa_cons se_int sa_nil))))))))))))
abbrev s__law_row_of_few : Stmt := topS 38
theorem sc__law_row_of_few : FnScope ["deal", "p", "letters", "row", "kind", "at"] ["deal"] (defScope s__law_row_of_few) := ⟨rfl, rfl, rfl, by decide +kernel, rfl, by decide +kernel, by decide +kernel⟩
theorem d__law_row_of_few (T : Txt K mg "_law_row_of_few" "_law_row_of_few" s__law_row_of_few ["deal"]) (z : Z mg)
    (D__law_any : Def P w K mg base 1 "_law_any" s__law_any ["deal", "bound"] f__law_any)
    (D__law_of : Def P w K mg base 2 "_law_of" s__law_of ["deal", "some"] f__law_of)
    (D__law_residues : Def P w K mg base 3 "_law_residues" s__law_residues ["deal", "p", "many"] f__law_residues)
    (D__law_twos : Def P w K mg base 1 "_law_twos" s__law_twos ["many"] f__law_twos) :
    Def P w K mg base 4 "_law_row_of_few" s__law_row_of_few ["deal"] f__law_row_of_few := Def.deal1 (def_of T sc__law_row_of_few (fun _ _ _ _ _ _ _ hr => by
  exact (sss_cons (ss_unp (se_call D__law_of (hr.mono (by decide)) (by rfl) (sa_cons (se_var 0) (sa_cons (se_lst false (sa_cons (se_tup (sa_cons se_int (sa_cons se_int sa_nil))) (sa_cons (se_tup (sa_cons se_int (sa_cons se_int sa_nil))) (sa_cons (se_tup (sa_cons se_int (sa_cons se_int sa_nil))) (sa_cons (se_tup (sa_cons se_int (sa_cons se_int sa_nil))) (sa_cons (se_tup (sa_cons se_int (sa_cons se_int sa_nil))) (sa_cons (se_tup (sa_cons se_int (sa_cons se_int sa_nil))) (sa_cons (se_tup (sa_cons se_int (sa_cons se_int sa_nil))) sa_nil)))))))) sa_nil))) (sg_tup (by rfl) (sgs_cons (sg_name sc__law_row_of_few.nd) (sgs_cons (sg_name sc__law_row_of_few.nd) sgs_nil))))
    (sss_cons (ss_asg (i := 3) sc__law_row_of_few.nd (se_ty' call_list_of (opn_list true) (by rfl) z.list (by decide +kernel) (sa_cons (se_call D__law_residues (hr.mono (by decide)) (by rfl) (sa_cons (se_var 0) (sa_cons (se_var 1) (sa_cons (se_call D__law_twos (hr.mono (by decide)) (by rfl) (sa_cons (se_var 2) sa_nil)) sa_nil)))) sa_nil)))
    (sss_cons (ss_asg (i := 4) sc__law_row_of_few.nd (se_call D__law_any (hr.mono (by decide)) (by rfl) (sa_cons (se_var 0) (sa_cons se_int sa_nil))))
    (sss_cons (ss_for PassesOwn.never (by rfl) (si_range1 (by rfl) z.range (sa_cons (se_if (st_cmp (or_eq hr.units) op2_eq (se_var 4) se_int (nomark _)) (se_bl' call_len opn_len (by rfl) z.len (by decide +kernel) (sa_cons (se_var 3) sa_nil)) se_int) sa_nil)) (sg_name sc__law_row_of_few.nd) (sss_one (ss_setIx (se_if (st_cmp (or_eq hr.units) op2_eq (se_call D__law_any (hr.mono (by decide)) (by rfl) (sa_cons (se_var 0) (sa_cons se_int sa_nil))) se_int (nomark _)) (se_op op_mod op2_mod (se_ty' call_int1 opn_int (by rfl) z.int (by decide +kernel) (sa_cons (se_ix (se_var 3) (se_var 5)) sa_nil)) (se_var 1)) se_int) (se_var 3) (se_var 5))))
    (sss_cons (ss_for PassesOwn.never (by rfl) (si_range1 (by rfl) z.range (sa_cons (se_if (st_cmp (or_eq hr.units) op2_eq (se_var 4) se_int (nomark _)) (se_op op_fdivW op2_div (se_bl' call_len opn_len (by rfl) z.len (by decide +kernel) (sa_cons (se_var 3) sa_nil)) se_int) se_int) sa_nil)) (sg_name sc__law_row_of_few.nd) (sss_one (ss_setIx (se_ix (se_var 3) (se_var 5)) (se_var 3) (se_op or_add op2_add (se_op op_fdivW op2_div (se_bl' call_len opn_len (by rfl) z.len (by decide +kernel) (sa_cons (se_var 3) sa_nil)) se_int) (se_var 5)))))
    (sss_one (ss_ret (se_tup (sa_cons (se_var 1) (sa_cons (se_ty' call_tuple_of opn_tuple (by rfl) z.tuple (by decide +kernel) (sa_cons (se_var 3) sa_nil)) sa_nil))))))))))))
abbrev s_law : Stmt := topS 39
theorem sc_law : FnScope ["script", "deal", "pairs", "p", "row", "turn", "few", "some", "due"] ["script"] (defScope s_law) := ⟨rfl, rfl, rfl, by decide +kernel, rfl, by decide +kernel, by decide +kernel⟩
theorem d_law (T : Txt K mg "law" "law" s_law ["script"]) (z : Z mg)
    (D__law_all : Def P w K mg base 13 "_law_all" s__law_all ["pairs"] f__law_all)
    (D__law_deal : Def P w K mg base 1 "_law_deal" s__law_deal ["script", "salt"] f__law_deal)
    (D__law_noughts : Def P w K mg base 3 "_law_noughts" s__law_noughts ["p", "row"] f__law_noughts)
    (D__law_points : Def P w K mg base 2 "_law_points" s__law_points ["p", "row"] f__law_points)
    (D__law_prime : Def P w K mg base 3 "_law_prime" s__law_prime ["deal"] f__law_prime)
    (D__law_row_counted : Def P w K mg base 5 "_law_row_counted" s__law_row_counted ["deal", "p"] f__law_row_counted)
    (D__law_row_of_few : Def P w K mg base 4 "_law_row_of_few" s__law_row_of_few ["deal"] f__law_row_of_few)
    (D_nought_points : Def P w K mg base 6 "nought_points" s_nought_points ["p", "row"] f_nought_points) :
    Def P w K mg base 14 "law" s_law ["script"] f_law_k60 := (def_of T sc_law (fun _ _ _ _ _ _ _ hr => by
  exact (sss_cons (ss_asg (i := 1) sc_law.nd (se_call D__law_deal (hr.mono (by decide)) (by rfl) (sa_cons (se_var 0) (sa_cons se_int sa_nil))))
    (sss_cons (ss_par3 (i := 2) (j := 3) (l := 4) (by rfl) sc_law.nd (sa_cons (se_lst true sa_nil) (sa_cons se_int (sa_cons (se_tup (sa_cons se_int sa_nil)) sa_nil))))
    (sss_cons (ss_for PassesOwn.never (by rfl) (si_range1 (by rfl) z.range (sa_cons se_int sa_nil)) (sg_name sc_law.nd) (sss_cons (ss_asg (i := 3) sc_law.nd (se_call D__law_prime (hr.mono (by decide)) (by rfl) (sa_cons (se_var 1) sa_nil)))
    (sss_cons (ss_asg (i := 4) sc_law.nd (se_call D__law_row_counted (hr.mono (by decide)) (by rfl) (sa_cons (se_var 1) (sa_cons (se_var 3) sa_nil))))
    (sss_one (ss_expr (se_append (se_var 2) (se_tup (sa_cons (se_call D_nought_points (hr.mono (by decide)) (by rfl) (sa_cons (se_var 3) (sa_cons (se_var 4) sa_nil))) (sa_cons (se_call D__law_noughts (hr.mono (by decide)) (by rfl) (sa_cons (se_var 3) (sa_cons (se_var 4) sa_nil))) sa_nil)))))))))
    (sss_cons (ss_for PassesOwn.never (by rfl) (si_range1 (by rfl) z.range (sa_cons se_int sa_nil)) (sg_name sc_law.nd) (sss_cons (ss_unp (se_call D__law_row_of_few (hr.mono (by decide)) (by rfl) (sa_cons (se_var 1) sa_nil)) (sg_tup (by rfl) (sgs_cons (sg_name sc_law.nd) (sgs_cons (sg_name sc_law.nd) sgs_nil))))
    (sss_cons (ss_asg (i := 8) sc_law.nd (se_call D__law_points (hr.mono (by decide)) (by rfl) (sa_cons (se_var 6) (sa_cons (se_var 7) sa_nil))))
    (sss_one (ss_asg (i := 2) sc_law.nd (se_op or_add op2_add (se_var 2) (se_lst false (sa_cons (se_tup (sa_cons (se_call D_nought_points (hr.mono (by decide)) (by rfl) (sa_cons (se_var 6) (sa_cons (se_var 7) sa_nil))) (sa_cons (se_var 8) sa_nil))) (sa_cons (se_tup (sa_cons (se_callK (ks := ["row", "p"]) D_nought_points (hr.mono (by decide)) (by rfl) [1, 0] (fun _ _ _ _ _ _ _ us hl => match us, hl with | [_, _], _ => rfl) (by rfl) (sk_cons (se_var 7) (sk_cons (se_var 6) sk_nil))) (sa_cons (se_var 8) sa_nil))) sa_nil)))))))))
    (sss_one (ss_ret (se_call D__law_all (hr.mono (by decide)) (by rfl) (sa_cons (se_op or_add op2_add (se_var 2) (se_lst false (sa_cons (se_tup (sa_cons (se_call D_nought_points (hr.mono (by decide)) (by rfl) (sa_cons (se_var 3) (sa_cons (se_var 4) sa_nil))) (sa_cons (se_call D__law_noughts (hr.mono (by decide)) (by rfl) (sa_cons (se_var 3) (sa_cons (se_var 4) sa_nil))) sa_nil))) (sa_cons (se_tup (sa_cons (se_callK (ks := ["p", "row"]) D_nought_points (hr.mono (by decide)) (by rfl) [0, 1] (fun _ _ _ _ _ _ _ us hl => match us, hl with | [_, _], _ => rfl) (by rfl) (sk_cons (se_var 3) (sk_cons (se_var 4) sk_nil))) (sa_cons (se_call D__law_noughts (hr.mono (by decide)) (by rfl) (sa_cons (se_var 3) (sa_cons (se_var 4) sa_nil))) sa_nil))) sa_nil)))) sa_nil))))))))))
end
end K60


set_option Elab.async false
set_option linter.all false
set_option maxRecDepth 100000
/-! Num: primes by the orders of a number; core Lean alone. -/
namespace Nm
/-- prime: no divisor but 1 and itself -/
def Pr (n : Nat) : Prop := 2 ≤ n ∧ ∀ r, r ∣ n → 2 ≤ r → r = n
/-! ### by trial -/
def noDiv (n : Nat) : Nat → Nat → Bool
  | 0, _ => false
  | k + 1, d => if n < d * d then true else if n % d = 0 then false else noDiv n k (d + 1)
theorem noDiv_ok {n : Nat} : ∀ {k d : Nat}, noDiv n k d = true → ∀ e, d ≤ e → e * e ≤ n → ¬ e ∣ n
  | 0, _, h => by cases h
  | k + 1, d, h => by
    unfold noDiv at h
    intro e he hen hd
    split at h
    · rename_i hl
      have : d * d ≤ e * e := Nat.mul_le_mul he he
      omega
    · split at h
      · cases h
      · rename_i hm
        by_cases hde : e = d
        · subst hde
          exact hm (Nat.mod_eq_zero_of_dvd hd)
        · exact noDiv_ok h e (by omega) hen hd
theorem pr_of_trial {n k : Nat} (h2 : 2 ≤ n) (h : noDiv n k 2 = true) : Pr n := by
  refine ⟨h2, fun r hr h2r => ?_⟩
  obtain ⟨s, hs⟩ := hr
  have hsd : s ∣ n := ⟨r, by rw [hs, Nat.mul_comm]⟩
  by_cases hs1 : s = 1
  · rw [hs1] at hs; omega
  · have hs0 : s ≠ 0 := fun e => by rw [e] at hs; omega
    have hs2 : 2 ≤ s := by omega
    by_cases hle : r ≤ s
    · have : r * r ≤ n := by rw [hs]; exact Nat.mul_le_mul_left r hle
      exact absurd ⟨s, hs⟩ (noDiv_ok h r h2r this)
    · have : s * s ≤ n := by rw [hs, Nat.mul_comm r s]; exact Nat.mul_le_mul_left s (by omega)
      exact absurd hsd (noDiv_ok h s hs2 this)
/-! ### powers -/
def pw (n a : Nat) : Nat → Nat → Nat
  | 0, _ => 1 % n
  | k + 1, e => if e = 0 then 1 % n else (let h := pw n a k (e / 2); if e % 2 = 0 then h * h % n else h * h % n * a % n)
theorem pw_eq {n a : Nat} : ∀ {k e : Nat}, e < 2 ^ k → pw n a k e = a ^ e % n
  | 0, e, h => by
    have : e = 0 := by simpa using h
    subst this
    rfl
  | k + 1, e, h => by
    unfold pw
    split
    · rename_i h0; subst h0; rfl
    · have ih := pw_eq (n := n) (a := a) (k := k) (e := e / 2) (by rw [Nat.pow_succ] at h; omega)
      simp only [ih]
      have sq : a ^ (e / 2) % n * (a ^ (e / 2) % n) % n = a ^ (e / 2 + e / 2) % n := by
        rw [← Nat.mul_mod, Nat.pow_add]
      split
      · rename_i h2
        rw [sq]
        have : e / 2 + e / 2 = e := by omega
        rw [this]
      · rename_i h2
        rw [sq, Nat.mod_mul_mod, ← Nat.pow_succ]
        have : e / 2 + e / 2 + 1 = e := by omega
        rw [Nat.succ_eq_add_one, this]
/-! ### a list of unlike numbers below a bound is short -/
theorem short : ∀ (m : Nat) (f : Nat → Nat) (k : Nat), (∀ i, i < k → f i < m) → (∀ i j, i < k → j < k → f i = f j → i = j) → k ≤ m
  | 0, f, k, hb, _ => by
    by_cases hk : k = 0
    · omega
    · have := hb 0 (by omega); omega
  | m + 1, f, k, hb, hi => by
    cases k with
    | zero => omega
    | succ k =>
      -- the value at k goes out: what is m comes to be f k
      have := short m (fun i => if f i = m then f k else f i) k (fun i hik => by
        show (if f i = m then f k else f i) < m
        have h1 := hb i (by omega)
        have h2 := hb k (by omega)
        split
        · rename_i e
          by_cases h3 : f k = m
          · have := hi i k (by omega) (by omega) (e.trans h3.symm); omega
          · omega
        · omega) (fun i j hik hjk e => by
        have e : (if f i = m then f k else f i) = (if f j = m then f k else f j) := e
        split at e
        · rename_i ei
          split at e
          · rename_i ej
            exact hi i j (by omega) (by omega) (ei.trans ej.symm)
          · have := hi k j (by omega) (by omega) e; omega
        · split at e
          · have := hi i k (by omega) (by omega) e; omega
          · exact hi i j (by omega) (by omega) e)
      omega
/-! ### orders -/
theorem pow_mod_mul {a r x y : Nat} (h : a ^ x % r = 1 % r) : a ^ (x * y) % r = 1 % r := by
  induction y with
  | zero => rw [Nat.mul_zero, Nat.pow_zero]
  | succ y ih => rw [Nat.mul_succ, Nat.pow_add, Nat.mul_mod, ih, h, ← Nat.mul_mod]
/-- the least positive exponent -/
theorem least {P : Nat → Prop} (h : ∃ n, P n) : ∃ n, P n ∧ ∀ m, P m → n ≤ m := by
  classical
  obtain ⟨n, hn⟩ := h
  induction n using Nat.strongRecOn with
  | ind n ih =>
    by_cases hm : ∃ m, m < n ∧ P m
    · obtain ⟨m, hl, hp⟩ := hm
      exact ih m hl hp
    · exact ⟨n, hn, fun m hp => by
        by_cases hl : m < n
        · exact absurd ⟨m, hl, hp⟩ hm
        · omega⟩
theorem order_of {a r N : Nat} (hr : 2 ≤ r) (hN : 0 < N) (h : a ^ N % r = 1 % r) : ∃ d, 0 < d ∧ d ∣ N ∧ d < r ∧ a ^ d % r = 1 % r ∧ ∀ m, a ^ m % r = 1 % r → d ∣ m := by
  obtain ⟨d, ⟨hd0, hd1⟩, hmin⟩ := least (P := fun d => 0 < d ∧ a ^ d % r = 1 % r) ⟨N, hN, h⟩
  have div : ∀ m, a ^ m % r = 1 % r → d ∣ m := fun m hm => by
    have e : m = d * (m / d) + m % d := (Nat.div_add_mod m d).symm
    have h1 : a ^ (m % d) % r = 1 % r := by
      have h2 : a ^ m % r = a ^ (m % d) % r := by
        conv => lhs; rw [e, Nat.pow_add, Nat.mul_mod, pow_mod_mul hd1, ← Nat.mul_mod, Nat.one_mul]
      rw [← h2]; exact hm
    by_cases h0 : m % d = 0
    · exact Nat.dvd_of_mod_eq_zero h0
    · have := hmin (m % d) ⟨by omega, h1⟩
      have := Nat.mod_lt m hd0
      omega
  refine ⟨d, hd0, div N h, ?_, hd1, div⟩
  -- the powers below d are unlike and not 0
  have r1 : 1 % r = 1 := Nat.mod_eq_of_lt (by omega)
  have nz : ∀ i, i ≤ d → a ^ i % r ≠ 0 := fun i hi e => by
    have : a ^ d % r = 0 := by
      have e2 : d = i + (d - i) := by omega
      rw [e2, Nat.pow_add, Nat.mul_mod, e, Nat.zero_mul, Nat.zero_mod]
    rw [hd1, r1] at this
    cases this
  have inj : ∀ i j, i < j → j < d → a ^ i % r ≠ a ^ j % r := fun i j hij hj e => by
    have h1 : a ^ (i + (d - j)) % r = 1 % r := by
      rw [Nat.pow_add, Nat.mul_mod, e, ← Nat.mul_mod, ← Nat.pow_add]
      have : j + (d - j) = d := by omega
      rw [this]; exact hd1
    have := hmin _ ⟨by omega, h1⟩
    omega
  have hs := short (r - 1) (fun i => a ^ i % r - 1) d (fun i hi => by
    show a ^ i % r - 1 < r - 1
    have := Nat.mod_lt (a ^ i) (show 0 < r by omega)
    have := nz i (by omega)
    omega) (fun i j hi hj e => by
    have e : a ^ i % r - 1 = a ^ j % r - 1 := e
    have n1 := nz i (by omega)
    have n2 := nz j (by omega)
    have e' : a ^ i % r = a ^ j % r := by omega
    by_cases h1 : i < j
    · exact absurd e' (inj i j h1 hj)
    · by_cases h2 : j < i
      · exact absurd e'.symm (inj j i h2 hi)
      · omega)
  omega
/-! ### by the orders -/
def prodP : List (Nat × Nat) → Nat
  | [] => 1
  | (q, e) :: r => q ^ e * prodP r
theorem coprime_prod {t : Nat} : ∀ {l : List (Nat × Nat)}, (∀ p, p ∈ l → Nat.Coprime t p.1) → Nat.Coprime t (prodP l)
  | [], _ => Nat.coprime_one_right t
  | (q, e) :: r, h => Nat.Coprime.mul_right (Nat.Coprime.pow_right e (h (q, e) List.mem_cons_self)) (coprime_prod fun p hp => h p (List.mem_cons_of_mem _ hp))
/-- Lucas: n - 1 is the product of the primes, a has this order -/
theorem pr_of_lucas {n a : Nat} {l : List (Nat × Nat)} (h2 : 2 ≤ n) (hl : prodP l = n - 1) (hq : ∀ p, p ∈ l → Pr p.1) (h1 : a ^ (n - 1) % n = 1) (hw : ∀ p, p ∈ l → Nat.gcd (a ^ ((n - 1) / p.1) % n + (n - 1)) n = 1) : Pr n := by
  refine ⟨h2, fun r hr h2r => ?_⟩
  have hrn : r ≤ n := Nat.le_of_dvd (by omega) hr
  have cut : ∀ x, x % n = 1 → x % r = 1 % r := fun x hx => by
    have : x % n % r = x % r := Nat.mod_mod_of_dvd x hr
    rw [← this, hx]
  obtain ⟨d, hd0, hdN, hdr, hd1, hdm⟩ := order_of (N := n - 1) h2r (by omega) (cut _ h1)
  obtain ⟨t, ht⟩ := hdN
  -- t is 1
  have t1 : t = 1 := by
    by_cases ht1 : t = 1
    · exact ht1
    · exfalso
      have htN : t ∣ n - 1 := ⟨d, by rw [ht, Nat.mul_comm]⟩
      have : ∃ p, p ∈ l ∧ ¬ Nat.Coprime t p.1 := by
        apply Classical.byContradiction
        intro hno
        have hc := coprime_prod (t := t) (l := l) fun p hp => Classical.byContradiction fun h => hno ⟨p, hp, h⟩
        rw [hl] at hc
        have := Nat.Coprime.eq_one_of_dvd hc htN
        exact ht1 this
      obtain ⟨p, hp, hnc⟩ := this
      have hpr := hq p hp
      have hg : Nat.gcd t p.1 ∣ p.1 := Nat.gcd_dvd_right _ _
      have hg0 : Nat.gcd t p.1 ≠ 0 := fun e => by
        have := Nat.eq_zero_of_gcd_eq_zero_right e
        have := hpr.1
        omega
      have hg2 : 2 ≤ Nat.gcd t p.1 := by
        have : Nat.gcd t p.1 ≠ 1 := hnc
        omega
      have hpt : p.1 ∣ t := by rw [← hpr.2 _ hg hg2]; exact Nat.gcd_dvd_left _ _
      obtain ⟨u, hu⟩ := hpt
      -- d divides (n - 1) / p
      have hdiv : (n - 1) / p.1 = d * u := by
        rw [ht, hu, Nat.mul_left_comm]
        exact Nat.mul_div_cancel_left _ (by have := hpr.1; omega)
      have hx : a ^ ((n - 1) / p.1) % r = 1 % r := by rw [hdiv]; exact pow_mod_mul hd1
      have hgr : r ∣ a ^ ((n - 1) / p.1) % n + (n - 1) := by
        refine Nat.dvd_of_mod_eq_zero ?_
        have e1 : (a ^ ((n - 1) / p.1) % n + (n - 1)) % r = (1 + (n - 1)) % r := by
          rw [Nat.add_mod, Nat.mod_mod_of_dvd _ hr, hx, ← Nat.add_mod]
        rw [e1]
        have e2 : 1 + (n - 1) = n := by omega
        rw [e2]
        exact Nat.mod_eq_zero_of_dvd hr
      have := Nat.dvd_gcd hgr hr
      rw [hw p hp] at this
      have := Nat.le_of_dvd (by decide) this
      omega
  rw [t1, Nat.mul_one] at ht
  omega
/-- the check, for the kernel -/
def lucasOk (n a : Nat) (l : List (Nat × Nat)) : Bool :=
  decide (prodP l = n - 1) && decide (pw n a 64 (n - 1) = 1) && l.all fun p => decide (Nat.gcd (pw n a 64 ((n - 1) / p.1) + (n - 1)) n = 1)
theorem pr_of_check {n a : Nat} {l : List (Nat × Nat)} (h2 : 2 ≤ n) (hn : n < 2 ^ 64) (hq : ∀ p, p ∈ l → Pr p.1) (h : lucasOk n a l = true) : Pr n := by
  unfold lucasOk at h
  simp only [Bool.and_eq_true, decide_eq_true_eq, List.all_eq_true] at h
  obtain ⟨⟨h1, h3⟩, h4⟩ := h
  refine pr_of_lucas h2 h1 hq (by rw [← pw_eq (k := 64) (by omega)]; exact h3) fun p hp => ?_
  have := h4 p hp
  rw [pw_eq (k := 64) (Nat.lt_of_le_of_lt (Nat.div_le_self _ _) (by omega))] at this
  exact this
theorem Pr.coprime {n x : Nat} (h : Pr n) (h0 : 0 < x) (hx : x < n) : Nat.gcd n x = 1 := by
  have h1 := Nat.gcd_dvd_left n x
  have h2 := Nat.gcd_dvd_right n x
  have h3 : Nat.gcd n x ≤ x := Nat.le_of_dvd h0 h2
  by_cases h4 : 2 ≤ Nat.gcd n x
  · have := h.2 _ h1 h4; omega
  · have h5 : Nat.gcd n x ≠ 0 := fun e => by
      have := Nat.eq_zero_of_gcd_eq_zero_right e; omega
    omega
/-- the primes that the laws draw -/
def primes : List Nat := [5, 7, 11, 13, 17, 31, 101, 127, 257, 16381, 65537, 1000003, 2147483647, 4294967291, 34359738337, 999999999989, 1152921504606846883, 2305843009213693921, 2305843009213693951]
theorem tr {n : Nat} (k : Nat) (h : (decide (2 ≤ n) && noDiv n k 2) = true) : Pr n := by
  rw [Bool.and_eq_true] at h
  exact pr_of_trial (of_decide_eq_true h.1) h.2
theorem all_tr (k : Nat) {l : List (Nat × Nat)} (h : (l.all fun p => decide (2 ≤ p.1) && noDiv p.1 k 2) = true) : ∀ p, p ∈ l → Pr p.1 := fun p hp => tr k (List.all_eq_true.mp h p hp)
theorem pr_m31 : Pr 2147483647 := pr_of_check (a := 7) (l := [(2, 1), (3, 2), (7, 1), (11, 1), (31, 1), (151, 1), (331, 1)]) (by decide) (by decide) (all_tr 30 (by decide +kernel)) (by decide +kernel)
theorem pr_c : Pr 4294967291 := pr_of_check (a := 2) (l := [(2, 1), (5, 1), (19, 1), (22605091, 1)]) (by decide) (by decide) (all_tr 4800 (by decide +kernel)) (by decide +kernel)
theorem pr_d : Pr 34359738337 := pr_of_check (a := 5) (l := [(2, 5), (3, 2), (7, 1), (11, 1), (31, 1), (151, 1), (331, 1)]) (by decide) (by decide) (all_tr 30 (by decide +kernel)) (by decide +kernel)
theorem pr_e : Pr 999999999989 := pr_of_check (a := 2) (l := [(2, 2), (11, 1), (124847, 1), (182041, 1)]) (by decide) (by decide) (all_tr 500 (by decide +kernel)) (by decide +kernel)
theorem pr_q : Pr 16486124939 := pr_of_check (a := 2) (l := [(2, 1), (107, 2), (719981, 1)]) (by decide) (by decide) (all_tr 900 (by decide +kernel)) (by decide +kernel)
theorem pr_f : Pr 1152921504606846883 := pr_of_check (a := 2) (l := [(2, 1), (3, 1), (31, 1), (375983, 1), (16486124939, 1)]) (by decide) (by decide) (by
  intro p hp
  simp only [List.mem_cons, List.not_mem_nil, or_false] at hp
  rcases hp with rfl | rfl | rfl | rfl | rfl
  · exact tr 700 (by decide +kernel)
  · exact tr 700 (by decide +kernel)
  · exact tr 700 (by decide +kernel)
  · exact tr 700 (by decide +kernel)
  · exact pr_q) (by decide +kernel)
theorem pr_g : Pr 2305843009213693921 := pr_of_check (a := 14) (l := [(2, 5), (3, 1), (5, 1), (17, 1), (29, 1), (43, 1), (113, 1), (127, 1), (15790321, 1)]) (by decide) (by decide) (all_tr 4000 (by decide +kernel)) (by decide +kernel)
theorem pr_h : Pr 2305843009213693951 := pr_of_check (a := 37) (l := [(2, 1), (3, 2), (5, 2), (7, 1), (11, 1), (13, 1), (31, 1), (41, 1), (61, 1), (151, 1), (331, 1), (1321, 1)]) (by decide) (by decide) (all_tr 60 (by decide +kernel)) (by decide +kernel)
theorem pr_all : ∀ p, p ∈ primes → Pr p := fun p hp => by
  simp only [primes, List.mem_cons, List.not_mem_nil, or_false] at hp
  rcases hp with rfl | rfl | rfl | rfl | rfl | rfl | rfl | rfl | rfl | rfl | rfl | rfl | rfl | rfl | rfl | rfl | rfl | rfl | rfl
  · exact tr 1100 (by decide +kernel)
  · exact tr 1100 (by decide +kernel)
  · exact tr 1100 (by decide +kernel)
  · exact tr 1100 (by decide +kernel)
  · exact tr 1100 (by decide +kernel)
  · exact tr 1100 (by decide +kernel)
  · exact tr 1100 (by decide +kernel)
  · exact tr 1100 (by decide +kernel)
  · exact tr 1100 (by decide +kernel)
  · exact tr 1100 (by decide +kernel)
  · exact tr 1100 (by decide +kernel)
  · exact tr 1100 (by decide +kernel)
  · exact pr_m31
  · exact pr_c
  · exact pr_d
  · exact pr_e
  · exact pr_f
  · exact pr_g
  · exact pr_h
theorem le_all : ∀ p, p ∈ primes → 5 ≤ p ∧ p < 2 ^ 61 := by decide
end Nm


set_option Elab.async false
set_option linter.all false
set_option maxRecDepth 100000
/-! Num2: residues of a prime; sums over all residues. Core Lean alone. -/
namespace Nm
theorem pr_dvd_mul {p : Nat} (h : Pr p) {a b : Int} (hd : (p : Int) ∣ a * b) : (p : Int) ∣ a ∨ (p : Int) ∣ b := by
  rw [Int.ofNat_dvd_left, Int.natAbs_mul] at hd
  rw [Int.ofNat_dvd_left, Int.ofNat_dvd_left]
  have g := Nat.gcd_dvd_left p a.natAbs
  have g2 := Nat.gcd_dvd_right p a.natAbs
  have hp := h.1
  by_cases h1 : Nat.gcd p a.natAbs = 1
  · exact .inr (Nat.Coprime.dvd_of_dvd_mul_left h1 hd)
  · have h0 : Nat.gcd p a.natAbs ≠ 0 := fun e => by
      have := Nat.eq_zero_of_gcd_eq_zero_left e; omega
    have := h.2 _ g (by omega)
    rw [this] at g2
    exact .inl g2
theorem dvd_mod {p : Nat} {a : Int} : a % (p : Int) = 0 ↔ (p : Int) ∣ a := ⟨Int.dvd_of_emod_eq_zero, Int.emod_eq_zero_of_dvd⟩
theorem mod_eq {p : Nat} {a b : Int} : a % (p : Int) = b % (p : Int) ↔ (p : Int) ∣ a - b := by
  constructor
  · intro h
    exact Int.dvd_of_emod_eq_zero (Int.emod_eq_emod_iff_emod_sub_eq_zero.mp h)
  · intro h
    exact Int.emod_eq_emod_iff_emod_sub_eq_zero.mpr (Int.emod_eq_zero_of_dvd h)
theorem res_eq {p : Nat} {a b : Int} (ha : 0 ≤ a ∧ a < p) (hb : 0 ≤ b ∧ b < p) (h : (p : Int) ∣ a - b) : a = b := by
  have := mod_eq.mpr h
  rwa [Int.emod_eq_of_lt ha.1 ha.2, Int.emod_eq_of_lt hb.1 hb.2] at this
theorem dvd_sub_mod {p : Nat} (a : Int) : (p : Int) ∣ a - a % (p : Int) := by
  refine ⟨a / p, ?_⟩
  have := Int.mul_ediv_add_emod a p
  omega
theorem sum_const {n : Nat} {g : Nat → Nat} {d : Nat} (h : ∀ x, x < n → g x = d) : ((List.range n).map g).sum = n * d := by
  induction n with
  | zero => simp
  | succ n ih =>
    rw [List.range_succ, List.map_append, List.sum_append_nat, ih fun x hx => h x (by omega)]
    simp only [List.map_cons, List.map_nil, List.sum_cons, List.sum_nil, h n (by omega)]
    rw [Nat.succ_mul]; omega
theorem sum_unique {n : Nat} {g : Nat → Nat} {c d x0 : Nat} (hx : x0 < n) (h0 : g x0 = c) (h : ∀ x, x < n → x ≠ x0 → g x = d) : ((List.range n).map g).sum = c + (n - 1) * d := by
  induction n with
  | zero => omega
  | succ n ih =>
    rw [List.range_succ, List.map_append, List.sum_append_nat]
    simp only [List.map_cons, List.map_nil, List.sum_cons, List.sum_nil]
    by_cases he : x0 = n
    · subst he
      rw [sum_const fun x hx => h x (by omega) (by omega), h0]
      simp only [Nat.add_sub_cancel]
      omega
    · rw [ih (by omega) fun x hx hn => h x (by omega) hn, h n (by omega) (by omega)]
      obtain ⟨k, rfl⟩ : ∃ k, n = k + 1 := ⟨n - 1, by omega⟩
      simp only [Nat.add_sub_cancel, Nat.succ_mul]
      omega
theorem sum_congr {n : Nat} {f g : Nat → Nat} (h : ∀ x, x < n → f x = g x) : ((List.range n).map f).sum = ((List.range n).map g).sum := by
  congr 1
  exact List.map_congr_left fun x hx => h x (List.mem_range.mp hx)
/-- a line a + b x, b not nought: one root -/
theorem root_of {p : Nat} (hp : Pr p) {b v : Int} (hv : (p : Int) ∣ v * b - 1) (a : Int) : ∃ x0 : Nat, x0 < p ∧ ∀ x : Nat, x < p → ((p : Int) ∣ a + x * b ↔ x = x0) := by
  have hp2 := hp.1
  have hr := Int.emod_nonneg (-(a * v)) (show (p : Int) ≠ 0 by omega)
  have hr2 := Int.emod_lt_of_pos (-(a * v)) (show (0 : Int) < p by omega)
  refine ⟨((-(a * v)) % (p : Int)).toNat, by omega, fun x hx => ?_⟩
  have e0 : ((((-(a * v)) % (p : Int)).toNat : Nat) : Int) = (-(a * v)) % (p : Int) := Int.toNat_of_nonneg hr
  obtain ⟨k, hk⟩ := hv
  obtain ⟨j, hj⟩ := dvd_sub_mod (p := p) (-(a * v))
  have key : (p : Int) ∣ a + ((-(a * v)) % (p : Int)) * b := by
    refine ⟨-(a * k) - j * b, ?_⟩
    grind
  constructor
  · rintro h
    have h3 : (p : Int) ∣ ((x : Int) - (-(a * v)) % (p : Int)) * b := by
      have := Int.dvd_sub h key
      have e : a + (x : Int) * b - (a + ((-(a * v)) % (p : Int)) * b) = ((x : Int) - (-(a * v)) % (p : Int)) * b := by grind
      rwa [e] at this
    rcases pr_dvd_mul hp h3 with h4 | h4
    · have := res_eq (p := p) ⟨by omega, by omega⟩ ⟨hr, hr2⟩ h4
      omega
    · have h5 : (p : Int) ∣ 1 := by
        obtain ⟨i, hi⟩ := h4
        refine ⟨v * i - k, ?_⟩
        rw [hi] at hk
        grind
      have := Int.le_of_dvd (by decide) h5
      omega
  · rintro h
    have : (x : Int) = (-(a * v)) % (p : Int) := by omega
    rw [this]
    exact key
end Nm


set_option Elab.async false
set_option linter.all false
set_option maxRecDepth 100000
set_option maxHeartbeats 2000000
/-! Ev: reckoning with what the defs compute. -/
namespace Sm
open PySem PySem.Spec PyProof.Rows L2
/-- what a range may reach -/
def rngFits (j : Int) : Bool := decide (-(2 ^ 62) ≤ j) && decide (j < 2 ^ 62)
theorem rngFits_iff {j : Int} : rngFits j = true ↔ -(2 ^ 62) ≤ j ∧ j < 2 ^ 62 := by
  unfold rngFits
  rw [Bool.and_eq_true, decide_eq_true_eq, decide_eq_true_eq]
theorem rngFits_nat {k : Nat} (h : k ≤ 1000000000) : rngFits (k : Int) = true := rngFits_iff.mpr ⟨by omega, by omega⟩
theorem rngFits_of {j : Int} (h : 0 ≤ j) (h' : j < 2 ^ 61) : rngFits j = true := rngFits_iff.mpr ⟨by omega, by omega⟩
section
variable {env : Env} {m : Mem} {f g : FS} {fa fb fc : FE} {s t : FT} {fr : FA} {b : FB} {bs : List D → Env → R Env} {fi : FI}
@[simp] theorem fThen_eq : fThen f g env m = (match f env m with | .ok (.nx, env1, m1) => g env1 m1 | r => r) := Eq.trans rfl rfl
@[simp] theorem fAsg_eq {i : Nat} : fAsg i fa env m = (match fa env m with | .ok (d, m1) => .ok (.nx, env.set i (some d), m1) | .bad => .bad) := Eq.trans rfl rfl
@[simp] theorem fUnp_eq : fUnp b fa env m = (match fa env m with | .ok (d, m1) => (match b d env with | .ok env1 => .ok (.nx, env1, m1) | .bad => .bad) | .bad => .bad) := Eq.trans rfl rfl
@[simp] theorem fPar_eq {i j : Nat} : fPar i j fr env m = (match fr env m with | .ok ([d1, d2], m1) => .ok (.nx, (env.set i (some d1)).set j (some d2), m1) | _ => .bad) := Eq.trans rfl rfl
@[simp] theorem fPar3_eq {i j l : Nat} : fPar3 i j l fr env m = (match fr env m with | .ok ([d1, d2, d3], m1) => .ok (.nx, ((env.set i (some d1)).set j (some d2)).set l (some d3), m1) | _ => .bad) := Eq.trans rfl rfl
@[simp] theorem fDrop_eq : fDrop fa env m = (match fa env m with | .ok (_, m1) => .ok (.nx, env, m1) | .bad => .bad) := Eq.trans rfl rfl
@[simp] theorem fRet_eq : fRet fa env m = (match fa env m with | .ok (d, m1) => .ok (.rt d, env, m1) | .bad => .bad) := Eq.trans rfl rfl
@[simp] theorem fRetN_eq : fRetN env m = .ok (.rt .non, env, m) := Eq.trans rfl rfl
@[simp] theorem fNext_eq : fNext env m = .ok (.nx, env, m) := Eq.trans rfl rfl
@[simp] theorem fIfS_eq : fIfS t f g env m = (match t env m with | .ok (true, m1) => f env m1 | .ok (false, m1) => g env m1 | .bad => .bad) := Eq.trans rfl rfl
@[simp] theorem fFor_eq {b : FB} : fFor fi b f env m = (match fi env m with | .ok (items, m1) => forL b f items env m1 | .bad => .bad) := Eq.trans rfl rfl
@[simp] theorem fC_eq {d : D} : fC d env m = .ok (d, m) := Eq.trans rfl rfl
@[simp] theorem fVar_0 {d : D} {e : Env} : fVar 0 (some d :: e) m = .ok (d, m) := Eq.trans rfl rfl
@[simp] theorem fVar_s {o : Option D} {i : Nat} {e : Env} : fVar (i + 1) (o :: e) m = fVar i e m := Eq.trans rfl rfl
@[simp] theorem fVar_1 {o : Option D} {e : Env} : fVar 1 (o :: e) m = fVar 0 e m := Eq.trans rfl rfl
@[simp] theorem fVar_2 {o : Option D} {e : Env} : fVar 2 (o :: e) m = fVar 1 e m := Eq.trans rfl rfl
@[simp] theorem fVar_3 {o : Option D} {e : Env} : fVar 3 (o :: e) m = fVar 2 e m := Eq.trans rfl rfl
@[simp] theorem fVar_4 {o : Option D} {e : Env} : fVar 4 (o :: e) m = fVar 3 e m := Eq.trans rfl rfl
@[simp] theorem fVar_5 {o : Option D} {e : Env} : fVar 5 (o :: e) m = fVar 4 e m := Eq.trans rfl rfl
@[simp] theorem fVar_6 {o : Option D} {e : Env} : fVar 6 (o :: e) m = fVar 5 e m := Eq.trans rfl rfl
@[simp] theorem fVar_7 {o : Option D} {e : Env} : fVar 7 (o :: e) m = fVar 6 e m := Eq.trans rfl rfl
@[simp] theorem fVar_8 {o : Option D} {e : Env} : fVar 8 (o :: e) m = fVar 7 e m := Eq.trans rfl rfl
@[simp] theorem fVar_9 {o : Option D} {e : Env} : fVar 9 (o :: e) m = fVar 8 e m := Eq.trans rfl rfl
@[simp] theorem fVar_10 {o : Option D} {e : Env} : fVar 10 (o :: e) m = fVar 9 e m := Eq.trans rfl rfl
@[simp] theorem fVar_11 {o : Option D} {e : Env} : fVar 11 (o :: e) m = fVar 10 e m := Eq.trans rfl rfl
@[simp] theorem fVar_12 {o : Option D} {e : Env} : fVar 12 (o :: e) m = fVar 11 e m := Eq.trans rfl rfl
@[simp] theorem fVar_13 {o : Option D} {e : Env} : fVar 13 (o :: e) m = fVar 12 e m := Eq.trans rfl rfl
@[simp] theorem fVar_14 {o : Option D} {e : Env} : fVar 14 (o :: e) m = fVar 13 e m := Eq.trans rfl rfl
@[simp] theorem fVar_15 {o : Option D} {e : Env} : fVar 15 (o :: e) m = fVar 14 e m := Eq.trans rfl rfl
@[simp] theorem fBin_eq {g : D → D → Mem → R (D × Mem)} : fBin g fa fb env m = (match fa env m with | .ok (x, m1) => (match fb env m1 with | .ok (y, m2) => g x y m2 | .bad => .bad) | .bad => .bad) := Eq.trans rfl rfl
@[simp] theorem fUn_eq {g : D → Mem → R (D × Mem)} : fUn g fa env m = (match fa env m with | .ok (x, m1) => g x m1 | .bad => .bad) := Eq.trans rfl rfl
@[simp] theorem fTest_eq : fTest fa env m = (match fa env m with | .ok (.bl b, m1) => .ok (b, m1) | _ => .bad) := Eq.trans rfl rfl
@[simp] theorem fAnd_eq : fAnd s t env m = (match s env m with | .ok (true, m1) => t env m1 | .ok (false, m1) => .ok (false, m1) | .bad => .bad) := Eq.trans rfl rfl
@[simp] theorem fOr_eq : fOr s t env m = (match s env m with | .ok (true, m1) => .ok (true, m1) | .ok (false, m1) => t env m1 | .bad => .bad) := Eq.trans rfl rfl
@[simp] theorem fNot_eq : fNot s env m = (match s env m with | .ok (b, m1) => .ok (!b, m1) | .bad => .bad) := Eq.trans rfl rfl
@[simp] theorem fIf_eq : fIf t fa fb env m = (match t env m with | .ok (true, m1) => fa env m1 | .ok (false, m1) => fb env m1 | .bad => .bad) := Eq.trans rfl rfl
@[simp] theorem fAndV_eq : fAndV fa fb env m = (match fa env m with | .ok (.bl true, m1) => fb env m1 | .ok (.bl false, m1) => .ok (.bl false, m1) | _ => .bad) := Eq.trans rfl rfl
@[simp] theorem fOrV_eq : fOrV fa fb env m = (match fa env m with | .ok (.bl true, m1) => .ok (.bl true, m1) | .ok (.bl false, m1) => fb env m1 | _ => .bad) := Eq.trans rfl rfl
@[simp] theorem fNotV_eq : fNotV fa env m = (match fa env m with | .ok (.bl b, m1) => .ok (.bl (!b), m1) | _ => .bad) := Eq.trans rfl rfl
@[simp] theorem fNil_eq : fNil env m = .ok ([], m) := Eq.trans rfl rfl
@[simp] theorem fCons_eq : fCons fa fr env m = (match fa env m with | .ok (d, m1) => (match fr env m1 with | .ok (ds, m2) => .ok (d :: ds, m2) | .bad => .bad) | .bad => .bad) := Eq.trans rfl rfl
@[simp] theorem fTup_eq : fTup fr env m = (match fr env m with | .ok (ds, m1) => (match frzs ds m1 with | .ok (ds', m2) => if ds'.length ≤ sizeLine then .ok (.tup ds', m2) else .bad | .bad => .bad) | .bad => .bad) := Eq.trans rfl rfl
@[simp] theorem fLst_eq {c : Bool} : fLst c fr env m = (match fr env m with | .ok (ds, m1) => (match (if c then .ok (ds, m1) else frzs ds m1) with | .ok (ds', m2) => if ds'.length ≤ sizeLine then .ok (mkL c ds' m2) else .bad | .bad => .bad) | .bad => .bad) := Eq.trans rfl rfl
@[simp] theorem fSl_eq {c : Bool} {fl fh : FO} : fSl c fa fl fh env m = (match fa env m with | .ok (x, m1) => (match fl env m1 with | .ok (lo, m2) => (match fh env m2 with | .ok (hi, m3) => gSl c x lo hi m3 | .bad => .bad) | .bad => .bad) | .bad => .bad) := Eq.trans rfl rfl
@[simp] theorem fNoP_eq : fNoP env m = .ok (none, m) := Eq.trans rfl rfl
@[simp] theorem fPart_eq : fPart fa env m = (match fa env m with | .ok (.int i, m1) => .ok (some i, m1) | _ => .bad) := Eq.trans rfl rfl
@[simp] theorem fRev_eq {c : Bool} : fRev c fa env m = (match fa env m with | .ok (x, m1) => gRev c x m1 | .bad => .bad) := Eq.trans rfl rfl
@[simp] theorem fBl_eq {g : Fn} : fBl g fr env m = (match fr env m with | .ok (ds, m1) => g ds m1 | .bad => .bad) := Eq.trans rfl rfl
@[simp] theorem fCall_eq {g : Fn} {n : Nat} : fCall g n fr env m = (match fr env m with | .ok (ds, m1) => if ds.length = n then g ds m1 else .bad | .bad => .bad) := Eq.trans rfl rfl
@[simp] theorem fCallK_eq {g : Fn} {n : Nat} {is : List Nat} : fCallK g n is fr env m = (match fr env m with | .ok (ds, m1) => if ds.length = n ∧ (pick is ds).length = n then g (pick is ds) m1 else .bad | .bad => .bad) := Eq.trans rfl rfl
@[simp] theorem fIsi_eq {b : String} : fIsi b fa env m = (match fa env m with | .ok (x, m1) => gIsi b x m1 | .bad => .bad) := Eq.trans rfl rfl
@[simp] theorem fSeq_eq : fSeq fa env m = (match fa env m with | .ok (d, m1) => (match frz1 d m1 with | .ok (.lst ds, m2) => .ok (ds, m2) | .ok (.scr ds, m2) => .ok (ds, m2) | .ok (.tup ds, m2) => .ok (ds, m2) | _ => .bad) | .bad => .bad) := Eq.trans rfl rfl
def rngStep1 : R (List D × Mem) → R (List D × Mem)
  | .ok ([.int j], m1) => if -(2 ^ 62) ≤ j ∧ j < 2 ^ 62 then .ok (rangeD 0 j, m1) else .bad
  | _ => .bad
def rngStep2 : R (List D × Mem) → R (List D × Mem)
  | .ok ([.int i, .int j], m1) => if -(2 ^ 62) ≤ i ∧ i < 2 ^ 62 ∧ -(2 ^ 62) ≤ j ∧ j < 2 ^ 62 then .ok (rangeD i j, m1) else .bad
  | _ => .bad
@[simp] theorem fRng1_eq : fRng1 fr env m = rngStep1 (fr env m) := Eq.trans rfl rfl
@[simp] theorem fRng2_eq : fRng2 fr env m = rngStep2 (fr env m) := Eq.trans rfl rfl
theorem rngStep1_ok {j : Int} {m1 : Mem} (hj : rngFits j = true) : rngStep1 (.ok ([.int j], m1)) = .ok (rangeD 0 j, m1) := if_pos (rngFits_iff.mp hj)
theorem rngStep2_ok {i j : Int} {m1 : Mem} (hi : rngFits i = true) (hj : rngFits j = true) : rngStep2 (.ok ([.int i, .int j], m1)) = .ok (rangeD i j, m1) := if_pos ⟨(rngFits_iff.mp hi).1, (rngFits_iff.mp hi).2, rngFits_iff.mp hj⟩
@[simp] theorem fComp_eq {c : Bool} {vs : List Nat} : fComp c fi b t fa vs env m = (match fi env m with | .ok (items, m1) => if items.length ≤ sizeLine then (match compL b t fa (wipeE env vs) items m1 with | .ok (ys, m2) => .ok (mkL c ys m2) | .bad => .bad) else .bad | .bad => .bad) := Eq.trans rfl rfl
@[simp] theorem fYes_eq : fYes env m = .ok (true, m) := Eq.trans rfl rfl
@[simp] theorem bName_eq {d : D} {i : Nat} : bName i d env = .ok (env.set i (some d)) := Eq.trans rfl rfl
@[simp] theorem bNil_eq : bNil [] env = .ok env := Eq.trans rfl rfl
@[simp] theorem bCons_eq {d : D} {ds : List D} : bCons b bs (d :: ds) env = (match b d env with | .ok env1 => bs ds env1 | .bad => .bad) := Eq.trans rfl rfl
@[simp] theorem bTup_eq {n : Nat} {ds : List D} : bTup n bs (.tup ds) env = if ds.length = n then bs ds env else .bad := Eq.trans rfl rfl
@[simp] theorem gAdd_int {c : Bool} {i j : Int} : gAdd c (.int i) (.int j) m = .ok (.int (i + j), m) := Eq.trans rfl rfl
@[simp] theorem gSub_int {i j : Int} : gSub (.int i) (.int j) m = .ok (.int (i - j), m) := Eq.trans rfl rfl
@[simp] theorem gMul_int {c : Bool} {i j : Int} : gMul c (.int i) (.int j) m = if mulFits i j then .ok (.int (i * j), m) else .bad := Eq.trans rfl rfl
@[simp] theorem gDiv_int {i j : Int} : gDiv (.int i) (.int j) m = if divFits j then .ok (.int (i / j), m) else .bad := Eq.trans rfl rfl
@[simp] theorem gMod_int {i j : Int} : gMod (.int i) (.int j) m = if 0 < j then .ok (.int (i % j), m) else .bad := Eq.trans rfl rfl
@[simp] theorem gNeg_int {i : Int} : gNeg (.int i) m = .ok (.int (-i), m) := Eq.trans rfl rfl
@[simp] theorem gCmp_int {p : Int → Int → Bool} {i j : Int} : gCmp p (.int i) (.int j) m = .ok (.bl (p i j), m) := Eq.trans rfl rfl
@[simp] theorem gEq_int {c : Bool} {i j : Int} : gEq c (.int i) (.int j) m = .ok (.bl (if c then !decide (i = j) else decide (i = j)), m) := Eq.trans rfl rfl
@[simp] theorem gIsN_non {c : Bool} {x : D} : gIsN c x .non m = .ok (.bl (if c then !isNon x else isNon x), m) := Eq.trans rfl rfl
@[simp] theorem gInt_int {i : Int} : gInt [.int i] m = .ok (.int i, m) := Eq.trans rfl rfl
@[simp] theorem gAbs_int {i : Int} : gAbs [.int i] m = .ok (.int (if i < 0 then -i else i), m) := Eq.trans rfl rfl
@[simp] theorem gMin2_int {i j : Int} : gMin2 [.int i, .int j] m = .ok (.int (if j < i then j else i), m) := Eq.trans rfl rfl
@[simp] theorem gMax2_int {i j : Int} : gMax2 [.int i, .int j] m = .ok (.int (if j > i then j else i), m) := Eq.trans rfl rfl
@[simp] theorem gLen_lst {ds : List D} : gLen [.lst ds] m = .ok (.int ds.length, m) := Eq.trans rfl rfl
@[simp] theorem gLen_tup {ds : List D} : gLen [.tup ds] m = .ok (.int ds.length, m) := Eq.trans rfl rfl
@[simp] theorem gLen_scr {ds : List D} : gLen [.scr ds] m = .ok (.int ds.length, m) := Eq.trans rfl rfl
@[simp] theorem gList_lst {c : Bool} {ds : List D} : gList c [.lst ds] m = .ok (mkL c ds m) := Eq.trans rfl rfl
@[simp] theorem gList_tup {c : Bool} {ds : List D} : gList c [.tup ds] m = .ok (mkL c ds m) := Eq.trans rfl rfl
@[simp] theorem gTuple_lst {ds : List D} : gTuple [.lst ds] m = .ok (.tup ds, m) := Eq.trans rfl rfl
@[simp] theorem gTuple_tup {ds : List D} : gTuple [.tup ds] m = .ok (.tup ds, m) := Eq.trans rfl rfl
@[simp] theorem mkL_f {ds : List D} : mkL false ds m = (.lst ds, m) := Eq.trans rfl rfl
@[simp] theorem mkL_t {ds : List D} : mkL true ds m = (.loc m.length, m ++ [.lst ds]) := Eq.trans rfl rfl
@[simp] theorem frz1_int {i : Int} : frz1 (.int i) m = .ok (.int i, m) := Eq.trans rfl rfl
@[simp] theorem frz1_bl {i : Bool} : frz1 (.bl i) m = .ok (.bl i, m) := Eq.trans rfl rfl
@[simp] theorem frz1_non : frz1 .non m = .ok (.non, m) := Eq.trans rfl rfl
@[simp] theorem frz1_str {i : Str} : frz1 (.str i) m = .ok (.str i, m) := Eq.trans rfl rfl
@[simp] theorem frz1_tup {ds : List D} : frz1 (.tup ds) m = .ok (.tup ds, m) := Eq.trans rfl rfl
@[simp] theorem frz1_lst {ds : List D} : frz1 (.lst ds) m = .ok (.lst ds, m) := Eq.trans rfl rfl
@[simp] theorem frz1_scr {ds : List D} : frz1 (.scr ds) m = .ok (.scr ds, m) := Eq.trans rfl rfl
@[simp] theorem frzs_nil : frzs [] m = .ok ([], m) := Eq.trans rfl rfl
@[simp] theorem frzs_cons {d : D} {ds : List D} : frzs (d :: ds) m = (match frz1 d m with | .ok (d', m1) => (match frzs ds m1 with | .ok (ds', m2) => .ok (d' :: ds', m2) | .bad => .bad) | .bad => .bad) := Eq.trans rfl rfl
@[simp] theorem gIx_tup {ds : List D} {i : Int} : gIx (.tup ds) (.int i) m = (match atI ds i with | some d => .ok (d, m) | none => .bad) := Eq.trans rfl rfl
@[simp] theorem gIx_lst {ds : List D} {i : Int} : gIx (.lst ds) (.int i) m = (match atI ds i with | some d => .ok (d, m) | none => .bad) := Eq.trans rfl rfl
@[simp] theorem wipeE_nil : wipeE env [] = env := Eq.trans rfl rfl
@[simp] theorem wipeE_cons {v : Nat} {vs : List Nat} : wipeE env (v :: vs) = (wipeE env vs).set v none := Eq.trans rfl rfl
end
/-- a def that changes nothing, by its body -/
theorem below_frz1 {d : D} {m : Mem} (h : below 0 d = true) : frz1 d m = .ok (d, m) := by
  cases d with
  | loc k => simp [below] at h
  | _ => rfl
theorem belows_frzs : ∀ {ds : List D} {m : Mem}, belows 0 ds = true → frzs ds m = .ok (ds, m)
  | [], _, _ => rfl
  | d :: ds, m, h => by
    simp only [belows, Bool.and_eq_true] at h
    simp only [frzs, below_frz1 h.1, belows_frzs h.2]
theorem pure1_run {g : Fn} {ds : List D} {d : D} {m m' : Mem} (hb : belows 0 ds = true) (hg : g ds [] = .ok (d, m')) (hd : below 0 d = true) : pure1 g ds m = .ok (d, m) := by
  unfold pure1
  rw [belows_frzs hb]
  simp only [hb, if_true, hg, below_frz1 hd, hd]
/-- .. that gives out a list it has made -/
theorem pure1_runL {g : Fn} {ds : List D} {d e : D} {m m' m'' : Mem} (hb : belows 0 ds = true) (hg : g ds [] = .ok (d, m')) (hf : frz1 d m' = .ok (e, m'')) (hd : below 0 e = true) : pure1 g ds m = .ok (e, m) := by
  unfold pure1
  rw [belows_frzs hb]
  simp only [hb, if_true, hg, hf, hd]
theorem mkFn_run {n : Nat} {body : FS} {ds : List D} {m m' : Mem} {d : D} {env : Env} (h : body (ds.map some ++ List.replicate (n - ds.length) none) m = .ok (.rt d, env, m')) : mkFn n body ds m = .ok (d, m') := by
  unfold mkFn
  rw [h]
@[simp] theorem below_int {n : Nat} {i : Int} : below n (.int i) = true := by simp [below]
@[simp] theorem below_bl {n : Nat} {i : Bool} : below n (.bl i) = true := by simp [below]
@[simp] theorem below_non {n : Nat} : below n .non = true := by simp [below]
@[simp] theorem below_str {n : Nat} {i : Str} : below n (.str i) = true := by simp [below]
@[simp] theorem below_tup {n : Nat} {ds : List D} : below n (.tup ds) = belows n ds := by simp [below]
@[simp] theorem below_lst {n : Nat} {ds : List D} : below n (.lst ds) = belows n ds := by simp [below]
@[simp] theorem below_scr {n : Nat} {ds : List D} : below n (.scr ds) = belows n ds := by simp [below]
@[simp] theorem below_loc {n k : Nat} : below n (.loc k) = decide (k < n) := by simp [below]
@[simp] theorem belows_nil {n : Nat} : belows n [] = true := by simp [belows]
@[simp] theorem belows_cons {n : Nat} {d : D} {ds : List D} : belows n (d :: ds) = (below n d && belows n ds) := by simp [belows]
theorem belows_all {n : Nat} : ∀ {ds : List D}, belows n ds = ds.all (below n)
  | [] => rfl
  | d :: ds => by rw [belows_cons, List.all_cons, belows_all]
@[simp] theorem belows_ints {n : Nat} {ns : List Int} : belows n (ns.map D.int) = true := by
  rw [belows_all]
  simp
@[simp] theorem sizeLine_num : sizeLine = 16777216 := sizeLine_eq
theorem many_eq : many = 10000000 := rfl
/-! ### sizes -/
theorem log2_lt {n k : Nat} (h : n < 2 ^ (k + 1)) : n.log2 ≤ k := by
  by_cases h0 : n = 0
  · subst h0; simp
  · have := (Nat.log2_lt h0).mpr h; omega
theorem mulFits_of {i j : Int} (a b : Nat) (hi : i.natAbs < 2 ^ (a + 1)) (hj : j.natAbs < 2 ^ (b + 1)) (h : a + b < 1000000) : mulFits i j = true := by
  unfold mulFits
  have := log2_lt hi
  have := log2_lt hj
  exact decide_eq_true (by omega)
theorem divFits_of {j : Int} (b : Nat) (h0 : 0 < j) (hj : j.natAbs < 2 ^ (b + 1)) (h : b < 9000) : divFits j = true := by
  unfold divFits
  have := log2_lt hj
  simp only [Bool.and_eq_true, decide_eq_true_eq]
  exact ⟨h0, by omega⟩
/-! ### loops -/
/-- a for over whole numbers (or anything), told as a fold over what is known -/
theorem forL_fold {α β : Type} {b : FB} {body : FS} (enc : β → D) (st : α → Env × Mem) (step : α → β → α) : ∀ (xs : List β) (a : α),
    (∀ a x, x ∈ xs → ∃ env1, b (enc x) (st a).1 = .ok env1 ∧ body env1 (st a).2 = .ok (.nx, (st (step a x)).1, (st (step a x)).2)) → forL b body (xs.map enc) (st a).1 (st a).2 = .ok (.nx, (st (xs.foldl step a)).1, (st (xs.foldl step a)).2)
  | [], a, _ => rfl
  | x :: xs, a, h => by
    obtain ⟨env1, h1, h2⟩ := h a x List.mem_cons_self
    simp only [List.map_cons, forL, h1, h2, List.foldl_cons]
    exact forL_fold enc st step xs (step a x) fun a y hy => h a y (List.mem_cons_of_mem _ hy)
/-- by an invariant that depends on how far it went -/
theorem forL_inv {b : FB} {body : FS} (I : Nat → Env → Mem → Prop) : ∀ (ds : List D) (k : Nat) (env : Env) (m : Mem), I k env m →
    (∀ i d env m, ds[i]? = some d → I (k + i) env m → ∃ env1 env2 m2, b d env = .ok env1 ∧ body env1 m = .ok (.nx, env2, m2) ∧ I (k + i + 1) env2 m2) → ∃ env' m', forL b body ds env m = .ok (.nx, env', m') ∧ I (k + ds.length) env' m'
  | [], k, env, m, h0, _ => ⟨env, m, rfl, h0⟩
  | d :: ds, k, env, m, h0, h => by
    obtain ⟨env1, env2, m2, h1, h2, h3⟩ := h 0 d env m rfl h0
    obtain ⟨env', m', e, q⟩ := forL_inv I ds (k + 1) env2 m2 h3 fun i d env m hd hi => by
      have := h (i + 1) d env m (by simpa using hd) (by rw [show k + (i + 1) = k + 1 + i by omega]; exact hi)
      rw [show k + (i + 1) = k + 1 + i by omega] at this
      exact this
    refine ⟨env', m', ?_, by rw [List.length_cons, show k + (ds.length + 1) = k + 1 + ds.length by omega]; exact q⟩
    simp only [forL, h1, h2]
    exact e
/-- a while, by a number that falls -/
theorem whileL_inv {t : FT} {body : FS} (I : Nat → Env → Mem → Prop) (E : Env → Mem → Prop) : ∀ (n k : Nat) (env : Env) (m : Mem), k < n → I k env m →
    (∀ k env m, I k env m → (∃ m1, t env m = .ok (false, m1) ∧ E env m1) ∨ ∃ m1 env2 m2 k', t env m = .ok (true, m1) ∧ body env m1 = .ok (.nx, env2, m2) ∧ k' < k ∧ I k' env2 m2) → ∃ env' m', whileL t body n env m = .ok (.nx, env', m') ∧ E env' m'
  | 0, k, _, _, hk, _, _ => absurd hk (Nat.not_lt_zero _)
  | n + 1, k, env, m, hk, hi, h => by
    rcases h k env m hi with ⟨m1, h1, h2⟩ | ⟨m1, env2, m2, k', h1, h2, h3, h4⟩
    · exact ⟨env, m1, by simp only [whileL, h1], h2⟩
    · obtain ⟨env', m', e, q⟩ := whileL_inv I E n k' env2 m2 (by omega) h4 h
      exact ⟨env', m', by simp only [whileL, h1, h2, e], q⟩
theorem fWhile_inv {t : FT} {body : FS} (I : Nat → Env → Mem → Prop) (E : Env → Mem → Prop) {k : Nat} {env : Env} {m : Mem} (hk : k < 10000000) (h0 : I k env m)
    (h : ∀ k env m, I k env m → (∃ m1, t env m = .ok (false, m1) ∧ E env m1) ∨ ∃ m1 env2 m2 k', t env m = .ok (true, m1) ∧ body env m1 = .ok (.nx, env2, m2) ∧ k' < k ∧ I k' env2 m2) : ∃ env' m', fWhile t body env m = .ok (.nx, env', m') ∧ E env' m' :=
  whileL_inv I E many k env m (by rw [many_eq]; exact hk) h0 h
/-- a comprehension that changes nothing: each item kept or left, its value -/
theorem compL_map {β : Type} {b : FB} {t : FT} {fe : FE} {env : Env} {m : Mem} (enc : β → D) (keep : β → Bool) (val : β → D) : ∀ xs : List β,
    (∀ x, x ∈ xs → ∃ env1, b (enc x) env = .ok env1 ∧ t env1 m = .ok (keep x, m) ∧ (keep x = true → fe env1 m = .ok (val x, m) ∧ frz1 (val x) m = .ok (val x, m))) → compL b t fe env (xs.map enc) m = .ok ((xs.filter keep).map val, m)
  | [], _ => rfl
  | x :: xs, h => by
    obtain ⟨env1, h1, h2, h3⟩ := h x List.mem_cons_self
    have ih := compL_map enc keep val xs fun y hy => h y (List.mem_cons_of_mem _ hy)
    simp only [List.map_cons, compL, h1, h2]
    cases hk : keep x with
    | true =>
      obtain ⟨h4, h5⟩ := h3 hk
      simp only [h4, h5, ih]
      rw [List.filter_cons, if_pos hk]
      rfl
    | false =>
      simp only [ih]
      rw [List.filter_cons, if_neg (by rw [hk]; decide)]
end Sm


set_option Elab.async false
set_option linter.all false
set_option maxRecDepth 100000
/-! Rul: one step each, as a rule (the kernel sees no big term twice). -/
namespace Sm
open PySem PySem.Spec PyProof.Rows L2
section
variable {env env1 env2 : Env} {m m1 m2 m3 : Mem} {f g : FS} {fa fb fc : FE} {s t : FT} {fr : FA} {d x y : D} {ds : List D}
theorem cons_ok (h1 : fa env m = .ok (d, m1)) (h2 : fr env m1 = .ok (ds, m2)) : fCons fa fr env m = .ok (d :: ds, m2) := by rw [fCons_eq, h1]; simp only [h2]
theorem nil_ok : fNil env m = .ok ([], m) := rfl
theorem asg_ok {i : Nat} (h : fa env m = .ok (d, m1)) : fAsg i fa env m = .ok (.nx, env.set i (some d), m1) := by rw [fAsg_eq, h]
theorem par_ok {i j : Nat} (h : fr env m = .ok ([x, y], m1)) : fPar i j fr env m = .ok (.nx, (env.set i (some x)).set j (some y), m1) := by rw [fPar_eq, h]
theorem par3_ok {i j l : Nat} {z : D} (h : fr env m = .ok ([x, y, z], m1)) : fPar3 i j l fr env m = .ok (.nx, ((env.set i (some x)).set j (some y)).set l (some z), m1) := by rw [fPar3_eq, h]
theorem unp_ok {b : FB} (h : fa env m = .ok (d, m1)) (hb : b d env = .ok env1) : fUnp b fa env m = .ok (.nx, env1, m1) := by rw [fUnp_eq, h]; simp only [hb]
theorem drop_ok (h : fa env m = .ok (d, m1)) : fDrop fa env m = .ok (.nx, env, m1) := by rw [fDrop_eq, h]
theorem ret_ok (h : fa env m = .ok (d, m1)) : fRet fa env m = .ok (.rt d, env, m1) := by rw [fRet_eq, h]
theorem thn_nx (h : f env m = .ok (.nx, env1, m1)) {r : R (Fl × Env × Mem)} (h2 : g env1 m1 = r) : fThen f g env m = r := by rw [fThen_eq, h]; exact h2
theorem thn_rt (h : f env m = .ok (.rt d, env1, m1)) : fThen f g env m = .ok (.rt d, env1, m1) := by rw [fThen_eq, h]
theorem ifs_t {r : R (Fl × Env × Mem)} (h : t env m = .ok (true, m1)) (h2 : f env m1 = r) : fIfS t f g env m = r := by rw [fIfS_eq, h]; exact h2
theorem ifs_f {r : R (Fl × Env × Mem)} (h : t env m = .ok (false, m1)) (h2 : g env m1 = r) : fIfS t f g env m = r := by rw [fIfS_eq, h]; exact h2
theorem if_t {r : R (D × Mem)} (h : t env m = .ok (true, m1)) (h2 : fa env m1 = r) : fIf t fa fb env m = r := by rw [fIf_eq, h]; exact h2
theorem if_f {r : R (D × Mem)} (h : t env m = .ok (false, m1)) (h2 : fb env m1 = r) : fIf t fa fb env m = r := by rw [fIf_eq, h]; exact h2
theorem tst_ok {b : Bool} (h : fa env m = .ok (.bl b, m1)) : fTest fa env m = .ok (b, m1) := by rw [fTest_eq, h]
theorem not_ok {b : Bool} (h : s env m = .ok (b, m1)) : fNot s env m = .ok (!b, m1) := by rw [fNot_eq, h]
theorem and_t {r : R (Bool × Mem)} (h : s env m = .ok (true, m1)) (h2 : t env m1 = r) : fAnd s t env m = r := by rw [fAnd_eq, h]; exact h2
theorem and_f (h : s env m = .ok (false, m1)) : fAnd s t env m = .ok (false, m1) := by rw [fAnd_eq, h]
theorem or_t (h : s env m = .ok (true, m1)) : fOr s t env m = .ok (true, m1) := by rw [fOr_eq, h]
theorem or_f {r : R (Bool × Mem)} (h : s env m = .ok (false, m1)) (h2 : t env m1 = r) : fOr s t env m = r := by rw [fOr_eq, h]; exact h2
theorem bin_ok {k : D → D → Mem → R (D × Mem)} {r : R (D × Mem)} (h1 : fa env m = .ok (x, m1)) (h2 : fb env m1 = .ok (y, m2)) (h3 : k x y m2 = r) : fBin k fa fb env m = r := by rw [fBin_eq, h1]; simp only [h2]; exact h3
theorem un_ok {k : D → Mem → R (D × Mem)} {r : R (D × Mem)} (h1 : fa env m = .ok (x, m1)) (h3 : k x m1 = r) : fUn k fa env m = r := by rw [fUn_eq, h1]; exact h3
theorem bl_ok {k : Fn} {r : R (D × Mem)} (h1 : fr env m = .ok (ds, m1)) (h2 : k ds m1 = r) : fBl k fr env m = r := by rw [fBl_eq, h1]; exact h2
theorem call_ok {k : Fn} {n : Nat} {r : R (D × Mem)} (h1 : fr env m = .ok (ds, m1)) (hn : ds.length = n) (h2 : k ds m1 = r) : fCall k n fr env m = r := by rw [fCall_eq, h1]; simp only [hn, if_true]; exact h2
theorem callK_ok {k : Fn} {n : Nat} {is : List Nat} {r : R (D × Mem)} (h1 : fr env m = .ok (ds, m1)) (hn : ds.length = n) (hp : (pick is ds).length = n) (h2 : k (pick is ds) m1 = r) : fCallK k n is fr env m = r := by rw [fCallK_eq, h1]; simp only [hn, hp, and_self, if_true]; exact h2
theorem eq_t {c : Bool} {i j : Int} (h : i = j) : gEq c (.int i) (.int j) m = .ok (.bl (!c), m) := by
  rw [gEq_int, decide_eq_true h]; cases c <;> rfl
theorem eq_f {c : Bool} {i j : Int} (h : i ≠ j) : gEq c (.int i) (.int j) m = .ok (.bl c, m) := by
  rw [gEq_int, decide_eq_false h]; cases c <;> rfl
theorem mul_ok {c : Bool} {i j : Int} (h : mulFits i j = true) : gMul c (.int i) (.int j) m = .ok (.int (i * j), m) := by rw [gMul_int, if_pos h]
theorem div_ok {i j : Int} (h : divFits j = true) : gDiv (.int i) (.int j) m = .ok (.int (i / j), m) := by rw [gDiv_int, if_pos h]
theorem mod_ok {i j : Int} (h : 0 < j) : gMod (.int i) (.int j) m = .ok (.int (i % j), m) := by rw [gMod_int, if_pos h]
theorem ix_lst {i : Int} (h : L2.atI ds i = some d) : gIx (.lst ds) (.int i) m = .ok (d, m) := by rw [gIx_lst, h]
theorem ix_tup {i : Int} (h : L2.atI ds i = some d) : gIx (.tup ds) (.int i) m = .ok (d, m) := by rw [gIx_tup, h]
theorem rng_ok {j : Int} (h : fr env m = .ok ([.int j], m1)) (hj : rngFits j = true) : fRng1 fr env m = .ok (rangeD 0 j, m1) := by rw [fRng1_eq, h]; exact rngStep1_ok hj
theorem comp_ok {c : Bool} {fi : FI} {b : FB} {t : FT} {fe : FE} {vs : List Nat} {items ys : List D} (h : fi env m = .ok (items, m1)) (hl : items.length ≤ 16777216) (hc : compL b t fe (wipeE env vs) items m1 = .ok (ys, m2)) : fComp c fi b t fe vs env m = .ok (mkL c ys m2) := by
  have hl' : items.length ≤ sizeLine := by rw [sizeLine_num]; exact hl
  rw [fComp_eq, h]
  show (if items.length ≤ sizeLine then (match compL b t fe (wipeE env vs) items m1 with | .ok (ys, m2) => R.ok (mkL c ys m2) | .bad => .bad) else .bad) = _
  rw [if_pos hl', hc]
theorem for_ok {b : FB} {fi : FI} {items : List D} {r : R (Fl × Env × Mem)} (h : fi env m = .ok (items, m1)) (h2 : forL b f items env m1 = r) : fFor fi b f env m = r := by rw [fFor_eq, h]; exact h2
theorem lst_ok {c : Bool} (h : fr env m = .ok (ds, m1)) (hf : frzs ds m1 = .ok (ds, m1)) (hl : ds.length ≤ 16777216) : fLst c fr env m = .ok (mkL c ds m1) := by
  have hl' : ds.length ≤ sizeLine := by rw [sizeLine_num]; exact hl
  rw [fLst_eq, h]
  cases c
  · show (match frzs ds m1 with | .ok (ds', m2) => if ds'.length ≤ sizeLine then R.ok (mkL false ds' m2) else .bad | .bad => .bad) = _
    rw [hf]
    show (if ds.length ≤ sizeLine then R.ok (mkL false ds m1) else .bad) = _
    rw [if_pos hl']
  · show (if ds.length ≤ sizeLine then R.ok (mkL true ds m1) else .bad) = _
    rw [if_pos hl']
theorem tup_ok (h : fr env m = .ok (ds, m1)) {ds' : List D} (hf : frzs ds m1 = .ok (ds', m2)) (hl : ds'.length ≤ 16777216) : fTup fr env m = .ok (.tup ds', m2) := by
  have hl' : ds'.length ≤ sizeLine := by rw [sizeLine_num]; exact hl
  rw [fTup_eq, h]
  show (match frzs ds m1 with | .ok (ds', m2) => if ds'.length ≤ sizeLine then R.ok (D.tup ds', m2) else .bad | .bad => .bad) = _
  rw [hf]
  show (if ds'.length ≤ sizeLine then R.ok (D.tup ds', m2) else .bad) = _
  rw [if_pos hl']
end
end Sm


set_option Elab.async false
set_option linter.all false
set_option maxRecDepth 100000
set_option maxHeartbeats 1000000
namespace K60
open PySem Sm Lb
theorem pow2_lt {j : Nat} (h : j ≤ 60) {n : Int} (hn : n = ((2 ^ j : Nat) : Int)) : n.natAbs < 2 ^ (60 + 1) := by
  rw [hn, Int.natAbs_natCast]
  exact Nat.pow_lt_pow_right (by decide) (by omega)
theorem pow2_succ {j : Nat} {n : Int} (hn : n = ((2 ^ j : Nat) : Int)) : 2 * n = ((2 ^ (j + 1) : Nat) : Int) := by
  rw [hn, Nat.pow_succ]; omega
theorem two_steps_ok {n : Int} (k : Nat) (hk : k ≤ 60) (hn : n = ((2 ^ k : Nat) : Int)) (m : Mem) : f_two_steps [.int n] m = .ok (.int k, m) := by
  have w := fWhile_inv (t := fTest (fBin (gCmp fun i j => decide (i < j)) (fVar 2) (fVar 0)))
    (body := fPar 1 2 (fCons (fBin (gAdd false) (fVar 1) (fC (.int 1))) (fCons (fBin (gMul false) (fC (.int 2)) (fVar 2)) fNil)))
    (fun r env m => ∃ (j : Nat) (q : Int), j ≤ k ∧ env = [some (.int n), some (.int j), some (.int q)] ∧ q = ((2 ^ j : Nat) : Int) ∧ m = [] ∧ r = k - j)
    (fun env m => env = [some (.int n), some (.int k), some (.int n)] ∧ m = [])
    (k := k) (env := [some (.int n), some (.int 0), some (.int 1)]) (m := []) (by omega) ⟨0, 1, by omega, rfl, rfl, rfl, by omega⟩ ?_
  · obtain ⟨env', m', e, rfl, rfl⟩ := w
    refine pure1_run (m' := []) rfl (mkFn_run (env := [some (.int n), some (.int k), some (.int n)]) ?_) rfl
    simp [e]
  · rintro r env m ⟨j, q, hj, rfl, hq, rfl, rfl⟩
    by_cases h : j = k
    · subst h
      left
      have : q = n := hq.trans hn.symm
      subst this
      refine ⟨[], by simp, rfl, rfl⟩
    · right
      have hlt : 2 ^ j < 2 ^ k := Nat.pow_lt_pow_right (by decide) (by omega)
      have hlt' : q < n := by rw [hq, hn]; omega
      have f := mulFits_of 1 60 (show (2 : Int).natAbs < 2 ^ (1 + 1) by decide) (pow2_lt (by omega) hq) (by decide)
      refine ⟨[], _, [], k - (j + 1), ?_, ?_, by omega, j + 1, 2 * q, by omega, rfl, pow2_succ hq, rfl, rfl⟩
      · simp [hlt']
      · simp [f]
theorem letters_ok {n : Int} (k : Nat) (hk : k ≤ 60) (hn : n = ((2 ^ k : Nat) : Int)) (m : Mem) : f__law_letters [.int n] m = .ok (.int k, m) := by
  have w := fWhile_inv (t := fTest (fBin (gCmp fun i j => decide (i < j)) (fVar 2) (fVar 0)))
    (body := fPar 1 2 (fCons (fBin (gAdd false) (fVar 1) (fC (.int 1))) (fCons (fBin (gMul false) (fC (.int 2)) (fVar 2)) fNil)))
    (fun r env m => ∃ (j : Nat) (q : Int), j ≤ k ∧ env = [some (.int n), some (.int j), some (.int q)] ∧ q = ((2 ^ j : Nat) : Int) ∧ m = [] ∧ r = k - j)
    (fun env m => env = [some (.int n), some (.int k), some (.int n)] ∧ m = [])
    (k := k) (env := [some (.int n), some (.int 0), some (.int 1)]) (m := []) (by omega) ⟨0, 1, by omega, rfl, rfl, rfl, by omega⟩ ?_
  · obtain ⟨env', m', e, rfl, rfl⟩ := w
    refine pure1_run (m' := []) rfl (mkFn_run (env := [some (.int n), some (.int k), some (.int n)]) ?_) rfl
    simp [e]
  · rintro r env m ⟨j, q, hj, rfl, hq, rfl, rfl⟩
    by_cases h : j = k
    · subst h
      left
      have : q = n := hq.trans hn.symm
      subst this
      refine ⟨[], by simp, rfl, rfl⟩
    · right
      have hlt : 2 ^ j < 2 ^ k := Nat.pow_lt_pow_right (by decide) (by omega)
      have hlt' : q < n := by rw [hq, hn]; omega
      have f := mulFits_of 1 60 (show (2 : Int).natAbs < 2 ^ (1 + 1) by decide) (pow2_lt (by omega) hq) (by decide)
      refine ⟨[], _, [], k - (j + 1), ?_, ?_, by omega, j + 1, 2 * q, by omega, rfl, pow2_succ hq, rfl, rfl⟩
      · simp [hlt']
      · simp [f]
/-! powers -/
theorem pow_lt {b : Int} (hb : b.natAbs < 2 ^ 62) (k : Nat) : (b ^ k).natAbs < 2 ^ (62 * k + 1) := by
  rw [Int.natAbs_pow]
  have h1 : b.natAbs ^ k ≤ (2 ^ 62) ^ k := Nat.pow_le_pow_left (by omega) k
  rw [← Nat.pow_mul] at h1
  have h2 : 2 ^ (62 * k) < 2 ^ (62 * k + 1) := Nat.pow_lt_pow_right (by decide) (by omega)
  omega
theorem range_map (n : Nat) : rangeD 0 (n : Int) = (List.range n).map fun (i : Nat) => D.int (i : Int) := by
  unfold rangeD
  simp
theorem power_loop {b : Int} (hb : b.natAbs < 2 ^ 62) (x3 : Option D) (k : Nat) (hk : k ≤ 1000) : ∃ x, forL (bName 3) (fAsg 2 (fBin (gMul false) (fVar 2) (fVar 0))) (rangeD 0 (k : Int)) [some (.int b), some (.int k), some (.int 1), x3] [] = .ok (.nx, [some (.int b), some (.int k), some (.int (b ^ k)), x], []) := by
  obtain ⟨env', m', e, j, x, rfl, rfl, hj⟩ := forL_inv (b := bName 3) (body := fAsg 2 (fBin (gMul false) (fVar 2) (fVar 0))) (fun i env m => ∃ j x, env = [some (.int b), some (.int k), some (.int (b ^ j)), x] ∧ m = [] ∧ j = i) (rangeD 0 (k : Int)) 0 [some (.int b), some (.int k), some (.int 1), x3] [] ⟨0, x3, by simp, rfl, rfl⟩ (fun i d env m hd hi => by
    obtain ⟨j, x, rfl, rfl, rfl⟩ := hi
    have hik : i < k := by
      rw [range_map] at hd
      have := (List.getElem?_eq_some_iff.mp hd).1
      simpa using this
    have f := mulFits_of (62 * (0 + i)) 61 (pow_lt hb (0 + i)) hb (by omega)
    refine ⟨_, _, _, rfl, ?_, 0 + i + 1, some d, rfl, rfl, rfl⟩
    simp [f]
    rw [show 0 + i = i by omega] at f
    simp [f, Int.pow_succ])
  subst hj
  refine ⟨x, ?_⟩
  rw [e, range_map]
  simp
theorem plain_power_ok {b : Int} (hb : b.natAbs < 2 ^ 62) (k : Nat) (hk : k ≤ 1000) (m : Mem) : f_plain_power [.int b, .int k] m = .ok (.int (b ^ k), m) := by
  obtain ⟨x, e⟩ := power_loop hb none k hk
  refine pure1_run (m' := []) rfl (mkFn_run (env := [some (.int b), some (.int k), some (.int (b ^ k)), x]) ?_) rfl
  have h : rngFits (k : Int) = true := rngFits_nat (by omega)
  simp [rngStep1_ok h, e]
theorem law_power_ok {b : Int} (hb : b.natAbs < 2 ^ 62) (k : Nat) (hk : k ≤ 1000) (m : Mem) : f__law_power_v2 [.int b, .int k] m = .ok (.int (b ^ k), m) := by
  obtain ⟨x, e⟩ := power_loop hb none k hk
  refine pure1_run (m' := []) rfl (mkFn_run (env := [some (.int b), some (.int k), some (.int (b ^ k)), x]) ?_) rfl
  have h : rngFits (k : Int) = true := rngFits_nat (by omega)
  simp [rngStep1_ok h, e]
end K60


set_option Elab.async false
set_option linter.all false
set_option maxRecDepth 100000
set_option maxHeartbeats 1000000
namespace K60
open PySem Sm Lb Nm
theorem abs_lt {x : Int} {p : Nat} (hp : p < 2 ^ 61) (h0 : -(p : Int) ≤ x) (h1 : x ≤ p) : x.natAbs < 2 ^ (61 + 1) := by omega
/-- what stays true of the four numbers -/
structure Eu (p : Nat) (a h l s o : Int) (r : Nat) : Prop where
  l0 : 0 ≤ l
  lh : l < h
  hp : h ≤ p
  ds : (p : Int) ∣ s * a - h
  do_ : (p : Int) ∣ o * a - l
  co : ∀ d : Int, d ∣ h → d ∣ l → d ∣ 1
  ms : h * l < 2 ^ r
  sg : (0 ≤ o ∧ s ≤ 0 ∧ h * o - l * s = p) ∨ (o ≤ 0 ∧ 0 ≤ s ∧ l * s - h * o = p)
theorem le_of_mul {h x y : Int} (hh : 1 ≤ h) (hx : 0 ≤ x) (hy : h * x ≤ y) : x ≤ y := by
  have : 1 * x ≤ h * x := Int.mul_le_mul_of_nonneg_right hh hx
  omega
theorem Eu.oB {p : Nat} {a h l s o : Int} {r : Nat} (e : Eu p a h l s o r) : -(p : Int) ≤ o ∧ o ≤ p := by
  have h1 : 1 ≤ h := by have := e.l0; have := e.lh; omega
  rcases e.sg with ⟨h2, h3, h4⟩ | ⟨h2, h3, h4⟩
  · have h5 : 0 ≤ l * (-s) := Int.mul_nonneg e.l0 (by omega)
    have h6 : l * (-s) = -(l * s) := by grind
    have h7 := le_of_mul (y := (p : Int)) h1 h2 (by omega)
    exact ⟨by omega, h7⟩
  · have h5 : 0 ≤ l * s := Int.mul_nonneg e.l0 h3
    have h6 : h * (-o) = -(h * o) := by grind
    have h7 := le_of_mul (y := (p : Int)) (x := -o) h1 (by omega) (by omega)
    exact ⟨by omega, by omega⟩
theorem Eu.step {p : Nat} {a h l s o : Int} {r : Nat} (e : Eu p a h l s o r) (hl : l ≠ 0) : 1 ≤ r ∧ Eu p a l (h - h / l * l) o (s - h / l * o) (r - 1) := by
  have hl0 : 0 < l := by have := e.l0; omega
  have hm : h - h / l * l = h % l := by
    have := Int.mul_ediv_add_emod h l
    have h2 : h / l * l = l * (h / l) := Int.mul_comm _ _
    omega
  have hr0 := Int.emod_nonneg h hl
  have hr1 := Int.emod_lt_of_pos h hl0
  have hq : 1 ≤ h / l := by
    refine Int.le_ediv_of_mul_le hl0 ?_
    have := e.lh
    omega
  have hms := e.ms
  have r1 : 1 ≤ r := by
    by_cases hr : r = 0
    · subst hr
      have : 0 < h * l := Int.mul_pos (by have := e.lh; omega) hl0
      simp at hms
      omega
    · omega
  refine ⟨r1, ?_⟩
  have hdouble : 2 * (h % l) < h := by
    have e1 := Int.mul_ediv_add_emod h l
    have : l * 1 ≤ l * (h / l) := Int.mul_le_mul_of_nonneg_left hq e.l0
    omega
  rw [hm]
  refine ⟨hr0, hr1, by have := e.hp; have := e.lh; omega, e.do_, ?_, fun d h1 h2 => ?_, ?_, ?_⟩
  · obtain ⟨i, hi⟩ := e.ds
    obtain ⟨j, hj⟩ := e.do_
    refine ⟨i - h / l * j, ?_⟩
    rw [← hm]
    grind
  · refine e.co d ?_ h1
    obtain ⟨i, hi⟩ := h1
    obtain ⟨j, hj⟩ := h2
    refine ⟨i * (h / l) + j, ?_⟩
    have := Int.mul_ediv_add_emod h l
    grind
  · have h3 : l * (2 * (h % l)) < l * h := Int.mul_lt_mul_of_pos_left hdouble hl0
    have h4 : (2 : Int) ^ r = 2 * 2 ^ (r - 1) := by
      obtain ⟨k, rfl⟩ : ∃ k, r = k + 1 := ⟨r - 1, by omega⟩
      rw [Nat.add_sub_cancel, Int.pow_succ]; omega
    have h5 : l * (2 * (h % l)) = 2 * (l * (h % l)) := by grind
    have h6 : l * h = h * l := Int.mul_comm _ _
    omega
  · have hq0 : 0 ≤ h / l := by omega
    have hh : h % l = h - h / l * l := hm.symm
    rcases e.sg with ⟨h2, h3, h4⟩ | ⟨h2, h3, h4⟩
    · have h5 : 0 ≤ h / l * o := Int.mul_nonneg hq0 h2
      exact .inr ⟨by omega, h2, by rw [hh]; grind⟩
    · have h5 : 0 ≤ h / l * (-o) := Int.mul_nonneg hq0 (by omega)
      have h6 : h / l * (-o) = -(h / l * o) := by grind
      exact .inl ⟨by omega, h2, by rw [hh]; grind⟩
theorem inverse_ok {p : Nat} (hp : Pr p) (hb : p < 2 ^ 61) {a : Int} (ha : 0 < a ∧ a < p) (m : Mem) : ∃ v : Int, f_inverse [.int p, .int a] m = .ok (.int v, m) ∧ (p : Int) ∣ v * a - 1 ∧ 0 ≤ v ∧ v < p := by
  have w := fWhile_inv (t := fTest (fBin (gEq true) (fVar 3) (fC (.int 0))))
    (body := fThen (fAsg 6 (fBin gDiv (fVar 2) (fVar 3)))
      (fThen (fPar 2 3 (fCons (fVar 3) (fCons (fBin gSub (fVar 2) (fBin (gMul false) (fVar 6) (fVar 3))) fNil)))
      (fPar 4 5 (fCons (fVar 5) (fCons (fBin gSub (fVar 4) (fBin (gMul false) (fVar 6) (fVar 5))) fNil)))))
    (fun r env m => ∃ (h l s o : Int) (q : Option D), env = [some (.int p), some (.int a), some (.int h), some (.int l), some (.int s), some (.int o), q] ∧ m = [] ∧ Eu p a h l s o r)
    (fun env m => ∃ (h l s o : Int) (q : Option D), env = [some (.int p), some (.int a), some (.int h), some (.int l), some (.int s), some (.int o), q] ∧ m = [] ∧ (p : Int) ∣ s * a - 1)
    (k := 122) (env := [some (.int p), some (.int a), some (.int p), some (.int a), some (.int 0), some (.int 1), none]) (m := []) (by decide)
    ⟨_, _, _, _, _, rfl, rfl, by omega, ha.2, Int.le_refl _, ⟨-1, by omega⟩, ⟨0, by omega⟩, fun d h1 h2 => ?_, ?_, .inl ⟨by omega, by omega, by omega⟩⟩ ?_
  · obtain ⟨env', m', e, h, l, s, o, q, rfl, rfl, hd⟩ := w
    have hp0 : (0 : Int) < p := by omega
    refine ⟨s % p, ?_, ?_, Int.emod_nonneg _ (by omega), Int.emod_lt_of_pos _ hp0⟩
    · refine pure1_run (m' := []) rfl (mkFn_run (env := [some (.int p), some (.int a), some (.int h), some (.int l), some (.int s), some (.int o), q]) ?_) rfl
      have hp0' : 0 < p := by omega
      simp [e, hp0']
    · obtain ⟨k, hk⟩ := hd
      obtain ⟨j, hj⟩ := dvd_sub_mod (p := p) s
      exact ⟨k - j * a, by grind⟩
  · have g : Nat.gcd p a.natAbs = 1 := hp.coprime (by omega) (by omega)
    have i1 : d.natAbs ∣ p := by have := Int.natAbs_dvd_natAbs.mpr h1; simpa using this
    have i2 : d.natAbs ∣ a.natAbs := Int.natAbs_dvd_natAbs.mpr h2
    have := Nat.dvd_gcd i1 i2
    rw [g] at this
    have h3 : d.natAbs = 1 := by simpa using this
    exact Int.natAbs_dvd_natAbs.mp (by rw [h3]; decide)
  · have h1 : (p : Int) * a < p * p := Int.mul_lt_mul_of_pos_left ha.2 (by omega)
    have h2 : (p : Int) * p ≤ 2 ^ 61 * 2 ^ 61 := Int.mul_le_mul (by omega) (by omega) (by omega) (by decide)
    have h3 : (2 : Int) ^ 61 * 2 ^ 61 = 2 ^ 122 := by decide
    rw [← h3]
    exact Int.lt_of_lt_of_le h1 h2
  · rintro r env m ⟨h, l, s, o, q, rfl, rfl, e⟩
    by_cases hl : l = 0
    · left
      subst hl
      refine ⟨[], by simp, h, 0, s, o, q, rfl, rfl, ?_⟩
      have hh : h = 1 := by
        have h1 := e.co h (Int.dvd_refl _) (Int.dvd_zero _)
        have := Int.le_of_dvd (by decide) h1
        have := e.lh
        omega
      have := e.ds
      rwa [hh] at this
    · right
      obtain ⟨r1, e'⟩ := e.step hl
      have hl0 : 0 < l := by have := e.l0; omega
      have b1 := e.hp
      have b2 := e.lh
      have b3 := e.oB
      have q0 : 0 ≤ h / l := Int.ediv_nonneg (by omega) (by omega)
      have q1 : h / l ≤ h := Int.ediv_le_self _ (by omega)
      have f1 := divFits_of 61 hl0 (abs_lt hb (by omega) (by omega)) (by decide)
      have f2 := mulFits_of (i := h / l) (j := l) 61 61 (abs_lt hb (by omega) (by omega)) (abs_lt hb (by omega) (by omega)) (by decide)
      have f3 := mulFits_of (i := h / l) (j := o) 61 61 (abs_lt hb (by omega) (by omega)) (abs_lt hb b3.1 b3.2) (by decide)
      refine ⟨[], _, [], r - 1, ?_, ?_, by omega, l, h - h / l * l, o, s - h / l * o, some (.int (h / l)), rfl, rfl, e'⟩
      · simp [hl]
      · simp [f1, f2, f3]
end K60


set_option Elab.async false
set_option linter.all false
set_option maxRecDepth 100000
set_option maxHeartbeats 1000000
namespace K60
open PySem Sm Lb Nm
/-- residues -/
def Res (p : Nat) (x : Int) : Prop := 0 ≤ x ∧ x < p
theorem Res.mod {p : Nat} (hp : 0 < p) (x : Int) : Res p (x % p) := ⟨Int.emod_nonneg _ (by omega), Int.emod_lt_of_pos _ (by omega)⟩
theorem line_noughts_ok {p : Nat} {a b : Int} (m : Mem) : f_line_noughts [.int p, .int a, .int b] m = .ok (.int (if a ≠ b then 1 else if a = 0 then p else 0), m) := by
  refine pure1_run (m' := []) rfl (mkFn_run (env := [some (.int p), some (.int a), some (.int b)]) ?_) rfl
  by_cases h : a = b
  · subst h
    by_cases h0 : a = 0 <;> simp [h0]
  · simp [h]
theorem line_nought_ok {p : Nat} (hp : Pr p) (hb : p < 2 ^ 61) {a b : Int} (ha : Res p a) (hb' : Res p b) (hne : a ≠ b) (m : Mem) : ∃ x : Int, f_line_nought [.int p, .int a, .int b] m = .ok (.int x, m) ∧ Res p x ∧ (p : Int) ∣ x * (a - b) - a := by
  have hp0 : (0 : Int) < p := by have := hp.1; omega
  have hd : (a - b) % p ≠ 0 := fun e => hne (res_eq ha hb' (dvd_mod.mp e))
  have hr := Res.mod (p := p) (by omega) (a - b)
  obtain ⟨v, hv, ⟨k, hk⟩, hv0, hv1⟩ := inverse_ok hp hb (a := (a - b) % p) ⟨by have := hr.1; omega, hr.2⟩ []
  have f1 := mulFits_of (i := a) (j := v) 61 61 (abs_lt hb (by have := ha.1; omega) (by have := ha.2; omega)) (abs_lt hb (by omega) (by omega)) (by decide)
  refine ⟨a * v % p, ?_, Res.mod (by omega) _, ?_⟩
  · refine pure1_run (m' := []) rfl (mkFn_run (env := [some (.int p), some (.int a), some (.int b)]) ?_) rfl
    have hp0' : 0 < p := by omega
    simp [hp0', hv, f1]
  · obtain ⟨j, hj⟩ := dvd_sub_mod (p := p) (a * v)
    obtain ⟨i, hi⟩ := dvd_sub_mod (p := p) (a - b)
    refine ⟨a * k + a * v * i - j * (a - b), ?_⟩
    grind
/-- how many points of two letters are nought, by the worths' shape -/
def sq (p : Nat) (a b c d : Int) : Int :=
  if (d - c - b + a) % p ≠ 0 then (if (a * ((d - c - b + a) % p) - (c - a) * (b - a)) % p = 0 then 2 * p - 1 else p - 1)
  else if (c - a) % p ≠ 0 ∨ (b - a) % p ≠ 0 then p else if a = 0 then p * p else 0
theorem atI_0 {x : D} {l : List D} : L2.atI (x :: l) 0 = some x := L2.atI_nat (j := 0) rfl
theorem atI_1 {x y : D} {l : List D} : L2.atI (x :: y :: l) 1 = some y := L2.atI_nat (j := 1) rfl
theorem atI_2 {x y z : D} {l : List D} : L2.atI (x :: y :: z :: l) 2 = some z := L2.atI_nat (j := 2) rfl
theorem atI_3 {x y z w : D} {l : List D} : L2.atI (x :: y :: z :: w :: l) 3 = some w := L2.atI_nat (j := 3) rfl
/-- a list or a tuple -/
inductive Sq : D → List D → Prop
  | lst (ds : List D) : Sq (.lst ds) ds
  | tup (ds : List D) : Sq (.tup ds) ds
theorem square_ok {p : Nat} (hp : Pr p) (hb : p < 2 ^ 61) {a b c d : Int} (ha : Res p a) (hb' : Res p b) (hc : Res p c) (hd : Res p d) {row : D} (hrow : Sq row [.int a, .int b, .int c, .int d]) (m : Mem) :
    f_square_noughts [.int p, row] m = .ok (.int (sq p a b c d), m) := by
  have hp2 := hp.1
  have hp0 : 0 < p := by omega
  have hpI : (0 : Int) < p := by omega
  have fpp := mulFits_of (i := (p : Int)) (j := (p : Int)) 61 61 (abs_lt hb (by omega) (by omega)) (abs_lt hb (by omega) (by omega)) (by decide)
  have fp1 := mulFits_of (i := (p : Int)) (j := 1) 61 61 (abs_lt hb (by omega) (by omega)) (abs_lt hb (by omega) (by omega)) (by decide)
  have fp0 := mulFits_of (i := (p : Int)) (j := 0) 61 61 (abs_lt hb (by omega) (by omega)) (abs_lt hb (by omega) (by omega)) (by decide)
  have hlow : ((a - c) % p = (b - d) % p) ↔ (d - c - b + a) % p = 0 := by
    rw [mod_eq, dvd_mod]
    have : (a - c) - (b - d) = d - c - b + a := by omega
    rw [this]
  have hca : ((a - c) % p = 0) ↔ (c - a) % p = 0 := by
    rw [dvd_mod, dvd_mod]
    have : c - a = -(a - c) := by omega
    rw [this, Int.dvd_neg]
  by_cases h1 : (d - c - b + a) % p = 0
  · by_cases h2 : (c - a) % p = 0
    · -- a = c
      have eac : c = a := res_eq hc ha (dvd_mod.mp h2)
      have hba : (b - a) % p = 0 ↔ a = b := ⟨fun e => (res_eq hb' ha (dvd_mod.mp e)).symm, fun e => by rw [e, Int.sub_self]; exact Int.zero_emod _⟩
      have ebd : d = b := by
        rw [eac] at h1
        have : d - a - b + a = d - b := by omega
        rw [this] at h1
        exact res_eq hd hb' (dvd_mod.mp h1)
      have es : sq p a b c d = p * (if a ≠ b then 1 else if a = 0 then (p : Int) else 0) := by
        unfold sq
        rw [if_neg (fun z => z h1)]
        by_cases h3 : a = b
        · have hn : ¬ (a ≠ b) := fun z => z h3
          rw [if_neg (fun e => e.elim (fun z => z h2) (fun z => z (hba.mpr h3)))]
          rw [show (if a ≠ b then (1 : Int) else if a = 0 then (p : Int) else 0) = (if a = 0 then (p : Int) else 0) from if_neg hn]
          by_cases h4 : a = 0
          · rw [if_pos h4, if_pos h4]
          · rw [if_neg h4, if_neg h4, Int.mul_zero]
        · rw [if_pos (.inr (fun e => h3 (hba.mp e))), if_pos h3]; omega
      rw [es]
      subst eac ebd
      refine pure1_run (m' := []) (by cases hrow <;> rfl) (mkFn_run (env := [some (.int p), some row, some (.int 0), some (.int 0), none, none]) ?_) rfl
      have e := line_noughts_ok (p := p) (a := c) (b := d) []
      have fX : mulFits (p : Int) (if c ≠ d then 1 else if c = 0 then (p : Int) else 0) = true := by
        by_cases h3 : c ≠ d
        · rw [if_pos h3]; exact fp1
        · rw [if_neg h3]
          by_cases h4 : c = 0
          · rw [if_pos h4]; exact fpp
          · rw [if_neg h4]; exact fp0
      generalize (if c ≠ d then 1 else if c = 0 then (p : Int) else 0) = y at e fX ⊢
      cases hrow <;> simp [atI_0, atI_1, atI_2, atI_3, hp0, e, fX]
    · have es : sq p a b c d = p := by
        unfold sq
        rw [if_neg (by simp [h1]), if_pos (.inl h2)]
      rw [es]
      refine pure1_run (m' := []) (by cases hrow <;> rfl) (mkFn_run (env := [some (.int p), some row, some (.int (a - c)), some (.int (b - d)), none, none]) ?_) rfl
      have hl := hlow.mpr h1
      have hl2 : (a - c) % p ≠ 0 := fun e => h2 (hca.mp e)
      obtain ⟨u, hu⟩ : ∃ u, u = a - c := ⟨_, rfl⟩
      obtain ⟨v, hv⟩ : ∃ u, u = b - d := ⟨_, rfl⟩
      rw [← hu, ← hv] at hl
      rw [← hu] at hl2
      cases hrow <;> simp [atI_0, atI_1, atI_2, atI_3, hp0, ← hu, ← hv, ← hl, hl2]
  · have hl : ¬ (a - c) % p = (b - d) % p := fun e => h1 (hlow.mp e)
    obtain ⟨x, hx, hxr, ⟨k, hk⟩⟩ := line_nought_ok hp hb (Res.mod hp0 (a - c)) (Res.mod hp0 (b - d)) hl []
    have f1 := mulFits_of (i := x) (j := b - a) 61 61 (abs_lt hb (by have := hxr.1; omega) (by have := hxr.2; omega)) (abs_lt hb (by have := hb'.1; have := ha.2; omega) (by have := hb'.2; have := ha.1; omega)) (by decide)
    have key : (a + x * (b - a)) % p = 0 ↔ (a * ((d - c - b + a) % p) - (c - a) * (b - a)) % p = 0 := by
      rw [dvd_mod, dvd_mod]
      obtain ⟨i1, hi1⟩ := dvd_sub_mod (p := p) (a - c)
      obtain ⟨i2, hi2⟩ := dvd_sub_mod (p := p) (b - d)
      obtain ⟨i3, hi3⟩ := dvd_sub_mod (p := p) (d - c - b + a)
      -- x (d - c - b + a) = a - c up to multiples of p
      have e : (d - c - b + a) * (a + x * (b - a)) - (a * ((d - c - b + a) % p) - (c - a) * (b - a)) = p * (a * i3 + (b - a) * (k - i1 + x * i1 - x * i2)) := by
        grind
      constructor
      · intro h
        have h2 : (p : Int) ∣ (d - c - b + a) * (a + x * (b - a)) := Int.dvd_mul_of_dvd_right h
        have := Int.dvd_sub h2 ⟨_, e⟩
        have e2 : (d - c - b + a) * (a + x * (b - a)) - ((d - c - b + a) * (a + x * (b - a)) - (a * ((d - c - b + a) % p) - (c - a) * (b - a))) = a * ((d - c - b + a) % p) - (c - a) * (b - a) := by omega
        rwa [e2] at this
      · intro h
        have h2 : (p : Int) ∣ (d - c - b + a) * (a + x * (b - a)) := by
          have := Int.dvd_add h ⟨_, e⟩
          have e2 : a * ((d - c - b + a) % p) - (c - a) * (b - a) + ((d - c - b + a) * (a + x * (b - a)) - (a * ((d - c - b + a) % p) - (c - a) * (b - a))) = (d - c - b + a) * (a + x * (b - a)) := by omega
          rwa [e2] at this
        exact (pr_dvd_mul hp h2).resolve_left fun h3 => h1 (dvd_mod.mpr h3)
    have es : sq p a b c d = p - 1 + (if (a + x * (b - a)) % p = 0 then (p : Int) else 0) := by
      unfold sq
      rw [if_pos h1]
      by_cases h3 : (a + x * (b - a)) % p = 0
      · rw [if_pos (key.mp h3), if_pos h3]; omega
      · rw [if_neg (fun e => h3 (key.mpr e)), if_neg h3]; omega
    rw [es]
    refine pure1_run (m' := []) (by cases hrow <;> rfl) (mkFn_run (env := [some (.int p), some row, some (.int (a - c)), some (.int (b - d)), some (.int x), some (.int ((a + x * (b - a)) % p))]) ?_) rfl
    obtain ⟨u, hu⟩ : ∃ u, u = a - c := ⟨_, rfl⟩
    obtain ⟨v, hv⟩ : ∃ u, u = b - d := ⟨_, rfl⟩
    obtain ⟨y, hy⟩ : ∃ u, u = b - a := ⟨_, rfl⟩
    rw [← hu, ← hv] at hl hx
    rw [← hy] at f1
    rw [← hu, ← hv, ← hy]
    by_cases h3 : (a + x * y) % p = 0 <;> cases hrow <;> simp [atI_0, atI_1, atI_2, atI_3, hp0, ← hu, ← hv, ← hy, hl, hx, f1, h3]
end K60


set_option Elab.async false
set_option linter.all false
set_option maxRecDepth 100000
set_option maxHeartbeats 1000000
namespace K60
open PySem Sm Lb Nm
theorem Sq.len {row : D} {ds : List D} (h : Sq row ds) (m : Mem) : gLen [row] m = .ok (.int ds.length, m) := by cases h <;> rfl
theorem Sq.ix {row : D} {ds : List D} (h : Sq row ds) {i : Int} {d : D} (hi : L2.atI ds i = some d) (m : Mem) : gIx row (.int i) m = .ok (d, m) := by
  cases h <;> simp [hi]
theorem Sq.below {row : D} {ds : List D} (h : Sq row ds) (hb : belows 0 ds = true) : Sm.below 0 row = true := by cases h <;> simpa using hb
theorem Sq.seq {row : D} {ds : List D} (h : Sq row ds) {fa : FE} {env : Sm.Env} {m m1 : Mem} (e : fa env m = .ok (row, m1)) : fSeq fa env m = .ok (ds, m1) := by
  rw [fSeq_eq, e]
  cases h <;> rfl
def nth (ns : List Int) (i : Nat) : Int := ns.getD i 0
theorem at_int {ns : List Int} {i : Nat} (h : i < ns.length) : L2.atI (ns.map D.int) (i : Int) = some (.int (nth ns i)) := by
  refine L2.atI_nat ?_
  unfold nth
  rw [List.getElem?_map, List.getElem?_eq_getElem h, List.getD_eq_getElem?_getD, List.getElem?_eq_getElem h]
  rfl
theorem getD_res {p : Nat} {ns : List Int} (hns : ∀ x, x ∈ ns → Res p x) (hp0 : 0 < p) (i : Nat) : Res p (nth ns i) := by
  unfold nth
  rw [List.getD_eq_getElem?_getD]
  cases e : ns[i]? with
  | none => exact ⟨Int.le_refl _, by show (0 : Int) < p; omega⟩
  | some x => exact hns x (List.mem_of_getElem? e)
/-- the first letter put in -/
def foldR (p h : Nat) (ns : List Int) (x : Int) : List Int := (List.range h).map fun i => (nth ns i + x * (nth ns (h + i) - nth ns i)) % p
theorem foldR_len {p h : Nat} {ns : List Int} {x : Int} : (foldR p h ns x).length = h := by simp [foldR]
theorem foldR_res {p h : Nat} {ns : List Int} {x : Int} (hp : 0 < p) : ∀ y, y ∈ foldR p h ns x → Res p y := fun y hy => by
  obtain ⟨i, _, rfl⟩ := List.mem_map.mp hy
  exact Res.mod hp _
theorem fits_diff {p : Nat} (hb : p < 2 ^ 61) {x a b : Int} (hx : Res p x) (ha : Res p a) (hb' : Res p b) : mulFits x (a - b) = true :=
  mulFits_of 61 61 (abs_lt hb (by have := hx.1; omega) (by have := hx.2; omega)) (abs_lt hb (by have := ha.1; have := hb'.2; omega) (by have := ha.2; have := hb'.1; omega)) (by decide)
theorem folded_ok {p : Nat} (hb : p < 2 ^ 61) (hp0 : 0 < p) {ns : List Int} (hns : ∀ x, x ∈ ns → Res p x) {h : Nat} (hl : ns.length = 2 * h) (hh : h ≤ 100000) {row : D} (hrow : Sq row (ns.map .int)) {x : Int} (hx : Res p x) (m : Mem) :
    f_folded [.int p, row, .int x] m = .ok (.lst ((foldR p h ns x).map D.int), m) := by
  have e2 : ((ns.length : Int) / 2) = h := by omega
  have d2 := divFits_of 1 (show (0 : Int) < 2 by decide) (by decide) (by decide)
  have c := compL_map (b := bName 4) (t := fYes) (fe := fBin gMod (fBin (gAdd false) (fBin gIx (fVar 1) (fVar 4)) (fBin (gMul false) (fVar 2) (fBin gSub (fBin gIx (fVar 1) (fBin (gAdd false) (fVar 3) (fVar 4))) (fBin gIx (fVar 1) (fVar 4))))) (fVar 0))
    (env := [some (.int p), some row, some (.int x), some (.int h), none]) (m := []) (fun (i : Nat) => D.int (i : Int)) (fun _ => true) (fun i => D.int ((nth ns i + x * (nth ns (h + i) - nth ns i)) % p)) (List.range h) (fun i hi => by
      have hi := List.mem_range.mp hi
      have a1 := hrow.ix (at_int (ns := ns) (i := i) (by omega)) []
      have a2 := hrow.ix (at_int (ns := ns) (i := h + i) (by omega)) []
      rw [Int.natCast_add] at a2
      have f := fits_diff hb hx (getD_res hns hp0 (h + i)) (getD_res hns hp0 i)
      refine ⟨_, rfl, rfl, fun _ => ⟨?_, rfl⟩⟩
      simp [a1, a2, f, hp0])
  refine pure1_run (m' := []) (by simp [hrow.below]) (mkFn_run (env := [some (.int p), some row, some (.int x), some (.int h), none]) ?_) (by simp)
  rw [List.filter_eq_self.mpr (fun _ _ => rfl)] at c
  have rr : rangeD 0 (h : Int) = (List.range h).map fun (i : Nat) => D.int (i : Int) := range_map h
  simp [hrow.len, e2, d2, rngStep1_ok (rngFits_nat (show h ≤ 1000000000 by omega)), rr, c, foldR]
  rw [if_pos (show h ≤ 16777216 by omega)]
  rfl
/-- the law's own line -/
theorem law_line_ok {p : Nat} (hb : p < 2 ^ 61) (hp0 : 0 < p) {ns lo hi : List Int} (hns : ∀ x, x ∈ ns → Res p x) {h : Nat} (l1 : lo.length = h) (l2 : hi.length = h) (n1 : ∀ i, i < h → nth lo i = nth ns i) (n2 : ∀ i, i < h → nth hi i = nth ns (h + i)) (hh : h ≤ 100000) {x : Int} (hx : Res p x) (m : Mem) :
    f__law_line [.int p, .lst (lo.map .int), .lst (hi.map .int), .int x] m = .ok (.lst ((foldR p h ns x).map D.int), m) := by
  have c := compL_map (b := bName 4) (t := fYes) (fe := fBin gMod (fBl gInt (fCons (fBin (gAdd false) (fBin gIx (fVar 1) (fVar 4)) (fBin (gMul false) (fVar 3) (fBin gSub (fBin gIx (fVar 2) (fVar 4)) (fBin gIx (fVar 1) (fVar 4))))) fNil)) (fVar 0))
    (env := [some (.int p), some (.lst (lo.map .int)), some (.lst (hi.map .int)), some (.int x), none]) (m := []) (fun (i : Nat) => D.int (i : Int)) (fun _ => true) (fun i => D.int ((nth ns i + x * (nth ns (h + i) - nth ns i)) % p)) (List.range h) (fun i hi' => by
      have hi' := List.mem_range.mp hi'
      have a1 := at_int (ns := lo) (i := i) (by omega)
      have a2 := at_int (ns := hi) (i := i) (by omega)
      rw [n1 i hi'] at a1
      rw [n2 i hi'] at a2
      have f := fits_diff hb hx (getD_res hns hp0 (h + i)) (getD_res hns hp0 i)
      refine ⟨_, rfl, rfl, fun _ => ⟨?_, rfl⟩⟩
      simp [a1, a2, f, hp0])
  refine pure1_run (m' := []) (by simp) (mkFn_run (env := [some (.int p), some (.lst (lo.map .int)), some (.lst (hi.map .int)), some (.int x), none]) ?_) (by simp)
  rw [List.filter_eq_self.mpr (fun _ _ => rfl)] at c
  have rr : rangeD 0 (h : Int) = (List.range h).map fun (i : Nat) => D.int (i : Int) := range_map h
  simp [l1, rngStep1_ok (rngFits_nat (show h ≤ 1000000000 by omega)), rr, c, foldR]
  rw [if_pos (show h ≤ 16777216 by omega)]
  rfl
theorem law_square_ok {p : Nat} (hb : p < 2 ^ 61) (hp0 : 0 < p) {a b c d : Int} (ha : Res p a) (hb' : Res p b) (hc : Res p c) (hd : Res p d) {row : D} (hrow : Sq row [.int a, .int b, .int c, .int d]) (m : Mem) :
    f__law_square [.int p, row] m = .ok (.int (sq p a b c d), m) := by
  have hr := Res.mod hp0 (d - c - b + a)
  obtain ⟨y, hy⟩ : ∃ u, u = (d - c - b + a) % (p : Int) := ⟨_, rfl⟩
  rw [← hy] at hr
  have f1 := mulFits_of (i := a) (j := y) 61 61 (abs_lt hb (by have := ha.1; omega) (by have := ha.2; omega)) (abs_lt hb (by have := hr.1; omega) (by have := hr.2; omega)) (by decide)
  have f2 := mulFits_of (i := c - a) (j := b - a) 61 61 (abs_lt hb (by have := hc.1; have := ha.2; omega) (by have := hc.2; have := ha.1; omega)) (abs_lt hb (by have := hb'.1; have := ha.2; omega) (by have := hb'.2; have := ha.1; omega)) (by decide)
  have f3 := mulFits_of (i := 2) (j := (p : Int)) 61 61 (by decide) (abs_lt hb (by omega) (by omega)) (by decide)
  have f4 := mulFits_of (i := (p : Int)) (j := (p : Int)) 61 61 (abs_lt hb (by omega) (by omega)) (abs_lt hb (by omega) (by omega)) (by decide)
  obtain ⟨u, hu⟩ : ∃ u, u = c - a := ⟨_, rfl⟩
  obtain ⟨v, hv⟩ : ∃ u, u = b - a := ⟨_, rfl⟩
  rw [← hu, ← hv] at f2
  refine pure1_run (m' := []) (by cases hrow <;> rfl) (mkFn_run (env := [some (.int p), some row, some (.int a), some (.int u), some (.int v), some (.int y)]) ?_) rfl
  unfold sq
  rw [← hy, ← hu, ← hv]
  by_cases h1 : y = 0
  · by_cases h2 : u % p = 0
    · by_cases h3 : v % p = 0
      · by_cases h4 : a = 0
        · have h4' := eq_true h4
          cases hrow <;> simp [atI_0, atI_1, atI_2, atI_3, hp0, ← hy, ← hu, ← hv, h1, h2, h3, h4', f4]
        · cases hrow <;> simp [atI_0, atI_1, atI_2, atI_3, hp0, ← hy, ← hu, ← hv, h1, h2, h3, h4]
      · cases hrow <;> simp [atI_0, atI_1, atI_2, atI_3, hp0, ← hy, ← hu, ← hv, h1, h2, h3]
    · cases hrow <;> simp [atI_0, atI_1, atI_2, atI_3, hp0, ← hy, ← hu, ← hv, h1, h2]
  · by_cases h2 : (a * y - u * v) % p = 0 <;> cases hrow <;> simp [atI_0, atI_1, atI_2, atI_3, hp0, ← hy, ← hu, ← hv, h1, h2, f1, f2, f3]
/-- rows of one, two, four -/
def sm (p : Nat) : List Int → Int
  | [a] => if a = 0 then 1 else 0
  | [a, b] => if a ≠ b then 1 else if a = 0 then p else 0
  | [a, b, c, d] => sq p a b c d
  | _ => 0
theorem small_ok {p : Nat} (hp : Pr p) (hb : p < 2 ^ 61) {ns : List Int} (hns : ∀ x, x ∈ ns → Res p x) (hl : ns.length = 1 ∨ ns.length = 2 ∨ ns.length = 4) {row : D} (hrow : Sq row (ns.map .int)) (m : Mem) : f_small_noughts [.int p, row] m = .ok (.int (sm p ns), m) := by
  match ns, hl with
  | [a], _ =>
    refine pure1_run (m' := []) (by cases hrow <;> rfl) (mkFn_run (env := [some (.int p), some row]) ?_) rfl
    by_cases h : a = 0 <;> cases hrow <;> simp [atI_0, h, sm]
  | [a, b], _ =>
    refine pure1_run (m' := []) (by cases hrow <;> rfl) (mkFn_run (env := [some (.int p), some row]) ?_) rfl
    have e := line_noughts_ok (p := p) (a := a) (b := b) []
    show _ = Sm.R.ok (Fl.rt (D.int (if a ≠ b then 1 else if a = 0 then (p : Int) else 0)), _, _)
    generalize (if a ≠ b then 1 else if a = 0 then (p : Int) else 0) = y at e ⊢
    cases hrow <;> simp [atI_0, atI_1, e]
  | [a, b, c, d], _ =>
    refine pure1_run (m' := []) (by cases hrow <;> rfl) (mkFn_run (env := [some (.int p), some row]) ?_) rfl
    have e := square_ok hp hb (hns a (by simp)) (hns b (by simp)) (hns c (by simp)) (hns d (by simp)) hrow []
    show _ = Sm.R.ok (Fl.rt (D.int (sq p a b c d)), _, _)
    simp only [List.map_cons, List.map_nil] at e hrow ⊢
    cases hrow <;> simp [e]
end K60


set_option Elab.async false
set_option linter.all false
set_option maxRecDepth 100000
set_option maxHeartbeats 1000000
namespace K60
open PySem Sm Lb Nm
/-- how many points are nought, letter by letter -/
def cnt (p : Nat) : Nat → List Int → Nat
  | 0, ns => if nth ns 0 = 0 then 1 else 0
  | k + 1, ns => ((List.range p).map fun (x : Nat) => cnt p k (foldR p (2 ^ k) ns (x : Int))).sum
theorem inv_ex {p : Nat} (hp : Pr p) (hb : p < 2 ^ 61) {b : Int} (h : ¬ (p : Int) ∣ b) : ∃ v : Int, (p : Int) ∣ v * b - 1 := by
  have hp2 := hp.1
  have hr := Res.mod (p := p) (by omega) b
  have h0 : b % p ≠ 0 := fun e => h (dvd_mod.mp e)
  obtain ⟨v, _, ⟨k, hk⟩, _⟩ := inverse_ok hp hb (a := b % p) ⟨by have := hr.1; omega, hr.2⟩ []
  obtain ⟨j, hj⟩ := dvd_sub_mod (p := p) b
  exact ⟨v, k + v * j, by grind⟩
theorem nth_foldR {p h : Nat} {ns : List Int} {x : Int} {i : Nat} (hi : i < h) : nth (foldR p h ns x) i = (nth ns i + x * (nth ns (h + i) - nth ns i)) % p := by
  unfold foldR
  conv => lhs; unfold nth
  rw [List.getD_eq_getElem?_getD, List.getElem?_map, List.getElem?_range hi]
  rfl
def lineN (p : Nat) (u v : Int) : Nat := if u ≠ v then 1 else if u = 0 then p else 0
theorem cnt1_ok {p : Nat} (hp : Pr p) (hb : p < 2 ^ 61) {u v : Int} (hu : Res p u) (hv : Res p v) {ns : List Int} (h0 : nth ns 0 = u) (h1 : nth ns 1 = v) : cnt p 1 ns = lineN p u v := by
  have hp2 := hp.1
  have e : cnt p 1 ns = ((List.range p).map fun (x : Nat) => if (u + (x : Int) * (v - u)) % p = 0 then 1 else 0).sum := by
    show ((List.range p).map fun (x : Nat) => cnt p 0 (foldR p 1 ns (x : Int))).sum = _
    refine sum_congr fun x hx => ?_
    show (if nth (foldR p 1 ns (x : Int)) 0 = 0 then 1 else 0) = _
    rw [nth_foldR (by decide), h0, h1]
  rw [e]
  unfold lineN
  by_cases h : u = v
  · rw [if_neg (fun z => z h)]
    subst h
    have hm : ∀ x : Nat, (u + (x : Int) * (u - u)) % p = u := fun x => by
      rw [Int.sub_self, Int.mul_zero, Int.add_zero, Int.emod_eq_of_lt hu.1 hu.2]
    by_cases hz : u = 0
    · rw [if_pos hz, sum_const (d := 1) fun x _ => by rw [hm, if_pos hz]]; omega
    · rw [if_neg hz, sum_const (d := 0) fun x _ => by rw [hm, if_neg hz]]; omega
  · rw [if_pos h]
    have hd : ¬ (p : Int) ∣ v - u := fun z => h (res_eq hv hu z).symm
    obtain ⟨w, hw⟩ := inv_ex hp hb hd
    obtain ⟨x0, hx0, hr⟩ := root_of hp hw u
    rw [sum_unique (c := 1) (d := 0) hx0 (by rw [if_pos (dvd_mod.mpr ((hr x0 hx0).mpr rfl))]) fun x hx hne => by rw [if_neg (fun z => hne ((hr x hx).mp (dvd_mod.mp z)))]]
    omega
theorem cnt2_ok {p : Nat} (hp : Pr p) (hb : p < 2 ^ 61) {a b c d : Int} (ha : Res p a) (hb' : Res p b) (hc : Res p c) (hd : Res p d) {ns : List Int} (h0 : nth ns 0 = a) (h1 : nth ns 1 = b) (h2 : nth ns 2 = c) (h3 : nth ns 3 = d) : ((cnt p 2 ns : Nat) : Int) = sq p a b c d := by
  have hp2 := hp.1
  have hp0 : 0 < p := by omega
  have e : cnt p 2 ns = ((List.range p).map fun (x : Nat) => lineN p ((a + (x : Int) * (c - a)) % p) ((b + (x : Int) * (d - b)) % p)).sum := by
    show ((List.range p).map fun (x : Nat) => cnt p 1 (foldR p 2 ns (x : Int))).sum = _
    refine sum_congr fun x hx => ?_
    exact cnt1_ok hp hb (Res.mod hp0 _) (Res.mod hp0 _) (by rw [nth_foldR (by decide), h0, h2]) (by rw [nth_foldR (by decide), h1, h3])
  rw [e]
  have alike : ∀ x : Int, (a + x * (c - a)) % p = (b + x * (d - b)) % p ↔ (p : Int) ∣ (a - b) + x * (-(d - c - b + a)) := fun x => by
    rw [mod_eq]
    have : a + x * (c - a) - (b + x * (d - b)) = (a - b) + x * (-(d - c - b + a)) := by grind
    rw [this]
  unfold sq
  by_cases hD : (d - c - b + a) % p = 0
  · rw [if_neg (fun z => z hD)]
    have hDd := dvd_mod.mp hD
    have alike2 : ∀ x : Int, (a + x * (c - a)) % p = (b + x * (d - b)) % p ↔ a = b := fun x => by
      rw [alike]
      have hz : (p : Int) ∣ x * (-(d - c - b + a)) := Int.dvd_mul_of_dvd_right (Int.dvd_neg.mpr hDd)
      constructor
      · intro h
        have := Int.dvd_sub h hz
        have e2 : a - b + x * (-(d - c - b + a)) - x * (-(d - c - b + a)) = a - b := by omega
        rw [e2] at this
        exact res_eq ha hb' this
      · intro h
        have e3 : ∀ y : Int, a - b + y = y := fun y => by omega
        rw [e3]
        exact hz
    by_cases hab : a = b
    · have hba0 : (b - a) % p = 0 := by rw [hab, Int.sub_self]; exact Int.zero_emod _
      have hsum : ((List.range p).map fun (x : Nat) => lineN p ((a + (x : Int) * (c - a)) % p) ((b + (x : Int) * (d - b)) % p)).sum = ((List.range p).map fun (x : Nat) => if (a + (x : Int) * (c - a)) % p = 0 then p else 0).sum :=
        sum_congr fun x _ => by
          unfold lineN
          rw [if_neg (fun z => z ((alike2 x).mpr hab))]
      rw [hsum]
      by_cases hca : (c - a) % p = 0
      · rw [if_neg (fun z => z.elim (fun z => z hca) (fun z => z hba0))]
        have hm : ∀ x : Nat, (a + (x : Int) * (c - a)) % p = a := fun x => by
          have hac : c = a := res_eq hc ha (dvd_mod.mp hca)
          rw [hac, Int.sub_self, Int.mul_zero, Int.add_zero, Int.emod_eq_of_lt ha.1 ha.2]
        by_cases hz : a = 0
        · rw [if_pos hz, sum_const (d := p) fun x _ => by rw [hm, if_pos hz]]; exact Int.natCast_mul p p
        · rw [if_neg hz, sum_const (d := 0) fun x _ => by rw [hm, if_neg hz]]; simp
      · rw [if_pos (.inl hca)]
        obtain ⟨w, hw⟩ := inv_ex hp hb (fun z => hca (dvd_mod.mpr z))
        obtain ⟨x0, hx0, hr⟩ := root_of hp hw a
        rw [sum_unique (c := p) (d := 0) hx0 (by rw [if_pos (dvd_mod.mpr ((hr x0 hx0).mpr rfl))]) fun x hx hne => by rw [if_neg (fun z => hne ((hr x hx).mp (dvd_mod.mp z)))]]
        omega
    · have hba0 : (b - a) % p ≠ 0 := fun z => hab (res_eq hb' ha (dvd_mod.mp z)).symm
      rw [if_pos (.inr hba0), sum_const (d := 1) fun x _ => by
        unfold lineN
        rw [if_pos (fun z => hab ((alike2 x).mp z))]]
      omega
  · rw [if_pos hD]
    have hDn : ¬ (p : Int) ∣ -(d - c - b + a) := fun z => hD (dvd_mod.mpr (Int.dvd_neg.mp z))
    obtain ⟨w, hw⟩ := inv_ex hp hb hDn
    obtain ⟨x0, hx0, hr⟩ := root_of hp hw (a - b)
    have ex0 : (a + (x0 : Int) * (c - a)) % p = (b + (x0 : Int) * (d - b)) % p := (alike x0).mpr ((hr x0 hx0).mpr rfl)
    rw [sum_unique (c := if (a + (x0 : Int) * (c - a)) % p = 0 then p else 0) (d := 1) hx0 (by
      show lineN p _ _ = _
      unfold lineN
      rw [if_neg (fun z => z ex0)]) fun x hx hne => by
      show lineN p _ _ = _
      unfold lineN
      rw [if_pos (fun z => hne ((hr x hx).mp ((alike x).mp z)))]]
    -- the worth there is nought exactly if the determinant is
    have key : (a + (x0 : Int) * (c - a)) % p = 0 ↔ (a * ((d - c - b + a) % p) - (c - a) * (b - a)) % p = 0 := by
      rw [dvd_mod, dvd_mod]
      obtain ⟨i, hi⟩ := (hr x0 hx0).mpr rfl
      obtain ⟨j, hj⟩ := dvd_sub_mod (p := p) (d - c - b + a)
      have e : (d - c - b + a) * (a + x0 * (c - a)) - (a * ((d - c - b + a) % p) - (c - a) * (b - a)) = p * (a * j - (c - a) * i) := by grind
      constructor
      · intro h
        have h2 : (p : Int) ∣ (d - c - b + a) * (a + x0 * (c - a)) := Int.dvd_mul_of_dvd_right h
        have := Int.dvd_sub h2 ⟨_, e⟩
        have e2 : (d - c - b + a) * (a + x0 * (c - a)) - ((d - c - b + a) * (a + x0 * (c - a)) - (a * ((d - c - b + a) % p) - (c - a) * (b - a))) = a * ((d - c - b + a) % p) - (c - a) * (b - a) := by omega
        rwa [e2] at this
      · intro h
        have h2 : (p : Int) ∣ (d - c - b + a) * (a + x0 * (c - a)) := by
          have := Int.dvd_add h ⟨_, e⟩
          have e2 : a * ((d - c - b + a) % p) - (c - a) * (b - a) + ((d - c - b + a) * (a + x0 * (c - a)) - (a * ((d - c - b + a) % p) - (c - a) * (b - a))) = (d - c - b + a) * (a + x0 * (c - a)) := by omega
          rwa [e2] at this
        exact (pr_dvd_mul hp h2).resolve_left fun h3 => hD (dvd_mod.mpr h3)
    by_cases hz : (a + (x0 : Int) * (c - a)) % p = 0
    · rw [if_pos hz, if_pos (key.mp hz)]; omega
    · rw [if_neg hz, if_neg (fun z => hz (key.mpr z))]; omega
/-! rows that are 0, or but for one number -/
theorem cnt_zero {p : Nat} (hp0 : 0 < p) : ∀ (k : Nat) (ns : List Int), (∀ i, i < 2 ^ k → nth ns i = 0) → cnt p k ns = p ^ k
  | 0, ns, h => by
    show (if nth ns 0 = 0 then 1 else 0) = _
    rw [if_pos (h 0 (by decide)), Nat.pow_zero]
  | k + 1, ns, h => by
    show ((List.range p).map fun (x : Nat) => cnt p k (foldR p (2 ^ k) ns (x : Int))).sum = _
    rw [sum_const (d := p ^ k) fun x _ => cnt_zero hp0 k _ fun i hi => by
      have e2 : 2 ^ (k + 1) = 2 ^ k + 2 ^ k := by rw [Nat.pow_succ]; omega
      rw [nth_foldR hi, h i (by omega), h (2 ^ k + i) (by omega)]
      simp]
    rw [Nat.pow_succ, Nat.mul_comm]
theorem cnt_one {p : Nat} (hp : Pr p) : ∀ (k : Nat) (ns : List Int) (i : Nat), i < 2 ^ k → Res p (nth ns i) → nth ns i ≠ 0 → (∀ j, j < 2 ^ k → j ≠ i → nth ns j = 0) → cnt p k ns + (p - 1) ^ k = p ^ k
  | 0, ns, i, hi, _, hn, _ => by
    have : i = 0 := by simpa using hi
    subst this
    show (if nth ns 0 = 0 then 1 else 0) + _ = _
    rw [if_neg hn, Nat.pow_zero, Nat.pow_zero]
  | k + 1, ns, i, hi, hr, hn, ho => by
    have hp2 := hp.1
    have e2 : 2 ^ (k + 1) = 2 ^ k + 2 ^ k := by rw [Nat.pow_succ]; omega
    have hnd : ¬ (p : Int) ∣ nth ns i := fun z => by
      have := res_eq (a := nth ns i) (b := 0) hr ⟨Int.le_refl _, by omega⟩ (by rw [Int.sub_zero]; exact z)
      exact hn this
    -- the place it goes to, the letter that makes it 0
    obtain ⟨i', x0, hi', hx0, hval, hoth⟩ : ∃ (i' x0 : Nat), i' < 2 ^ k ∧ x0 < p ∧ (∀ x : Nat, x < p → (nth (foldR p (2 ^ k) ns (x : Int)) i' = 0 ↔ x = x0)) ∧ ∀ (x j : Nat), j < 2 ^ k → j ≠ i' → nth (foldR p (2 ^ k) ns (x : Int)) j = 0 := by
      by_cases hlow : i < 2 ^ k
      · refine ⟨i, 1, hlow, by omega, fun x hx => ?_, fun x j hj hne => ?_⟩
        · rw [nth_foldR hlow, ho (2 ^ k + i) (by omega) (by omega), dvd_mod]
          have e : nth ns i + (x : Int) * (0 - nth ns i) = nth ns i * (1 - x) := by grind
          rw [e]
          constructor
          · intro h
            have h2 := (pr_dvd_mul hp h).resolve_left hnd
            by_cases hx1 : x = 0
            · subst hx1
              have := Int.le_of_dvd (by decide) h2
              omega
            · have h3 : (p : Int) ∣ (x : Int) - 1 := by
                have : (x : Int) - 1 = -(1 - x) := by omega
                rw [this]; exact Int.dvd_neg.mpr h2
              have := res_eq (p := p) (a := (x : Int)) (b := 1) ⟨by omega, by omega⟩ ⟨by omega, by omega⟩ h3
              omega
          · intro h
            subst h
            simp
        · rw [nth_foldR hj, ho j (by omega) hne, ho (2 ^ k + j) (by omega) (by omega)]
          simp
      · refine ⟨i - 2 ^ k, 0, by omega, by omega, fun x hx => ?_, fun x j hj hne => ?_⟩
        · rw [nth_foldR (by omega), ho (i - 2 ^ k) (by omega) (by omega), show 2 ^ k + (i - 2 ^ k) = i by omega, dvd_mod]
          have e : 0 + (x : Int) * (nth ns i - 0) = (x : Int) * nth ns i := by rw [Int.sub_zero, Int.zero_add]
          rw [e]
          constructor
          · intro h
            have h2 := (pr_dvd_mul hp h).resolve_right hnd
            have := res_eq (p := p) (a := (x : Int)) (b := 0) ⟨by omega, by omega⟩ ⟨by omega, by omega⟩ (by rw [Int.sub_zero]; exact h2)
            omega
          · intro h
            subst h
            simp
        · rw [nth_foldR hj, ho j (by omega) (by omega), ho (2 ^ k + j) (by omega) (by omega)]
          simp
    have hz := cnt_zero (p := p) (by omega) k (foldR p (2 ^ k) ns (x0 : Int)) fun j hj => by
      by_cases hji : j = i'
      · rw [hji]; exact (hval x0 hx0).mpr rfl
      · exact hoth x0 j hj hji
    have ho' : ∀ x, x < p → x ≠ x0 → cnt p k (foldR p (2 ^ k) ns (x : Int)) = p ^ k - (p - 1) ^ k := fun x hx hne => by
      have := cnt_one hp k (foldR p (2 ^ k) ns (x : Int)) i' hi' (by rw [nth_foldR hi']; exact Res.mod (by omega) _) (fun z => hne ((hval x hx).mp z)) fun j hj hji => hoth x j hj hji
      omega
    have hle : (p - 1) ^ k ≤ p ^ k := Nat.pow_le_pow_left (by omega) k
    show ((List.range p).map fun (x : Nat) => cnt p k (foldR p (2 ^ k) ns (x : Int))).sum + _ = _
    rw [sum_unique hx0 hz ho', Nat.pow_succ, Nat.pow_succ]
    obtain ⟨q, rfl⟩ : ∃ q, p = q + 1 := ⟨p - 1, by omega⟩
    simp only [Nat.add_sub_cancel] at hle ⊢
    have e3 : q * ((q + 1) ^ k - q ^ k) + q ^ k * q = q * (q + 1) ^ k := by
      rw [Nat.mul_comm (q ^ k) q, ← Nat.mul_add]
      congr 1
      omega
    rw [Nat.add_assoc, e3, Nat.mul_succ, Nat.mul_comm q]
    omega
end K60


set_option Elab.async false
set_option linter.all false
set_option maxRecDepth 100000
set_option maxHeartbeats 1000000
namespace K60
open PySem Sm Lb Nm
/-! == of lists of numbers with [] -/
theorem pyDs_ints (m : Mem) : ∀ ns : List Int, pyDs m (ns.map D.int) = some (ns.map PyData.int)
  | [] => by simp [pyDs]
  | n :: ns => by simp [pyDs, pyD, pyDs_ints m ns]
theorem shaped_ints : ∀ ns : List Int, SeqAt.shaped (.list (ns.map PyData.int)) = true := fun ns => by
  unfold SeqAt.shaped
  have h1 : PyData.canLay0 (.list (ns.map PyData.int)) = true := by
    unfold PyData.canLay0
    induction ns with
    | nil => rfl
    | cons n ns ih => simp only [List.map_cons, PyData.canLayAll0, PyData.canLay0, ih, Bool.and_self]
  have h2 : ∀ l : List Int, PyData.depthAll (l.map PyData.int) ≤ 1 := fun l => by
    induction l with
    | nil => decide
    | cons n ns ih => simp only [List.map_cons, PyData.depthAll, PyData.depth]; omega
  have h3 := h2 ns
  rw [h1, Bool.true_and]
  refine decide_eq_true ?_
  simp only [PyData.depth]
  omega
theorem gEq_nil {c : Bool} {ns : List Int} {m : Mem} : gEq c (.lst (ns.map .int)) (.lst []) m = .ok (.bl (if c then !ns.isEmpty else ns.isEmpty), m) := by
  unfold gEq
  have e0 : eqS (.lst (ns.map D.int)) (.lst []) = none := by unfold eqS; rfl
  have e1 : pyT m (.lst (ns.map .int)) = some (.list (ns.map PyData.int)) := by simp [pyT, pyD, pyDs_ints]
  have e2 : pyT m (.lst []) = some (.list []) := by simp [pyT, pyD, pyDs]
  rw [e0, e1, e2]
  have s1 := shaped_ints ns
  have s2 := shaped_ints []
  simp only [List.map_nil] at s2
  simp only [s1, s2, Bool.and_self, if_true]
  cases ns <;> rfl
/-! rows of rows -/
def rw1 (r : List Int) : D := .lst (r.map .int)
def ex (p h : Nat) (rows : List (List Int)) : List (List Int) := rows.flatMap fun r => (List.range p).map fun (x : Nat) => foldR p h r (x : Int)
theorem ex_nil {p h : Nat} : ex p h [] = [] := rfl
theorem ex_cons {p h : Nat} {r : List Int} {rows : List (List Int)} : ex p h (r :: rows) = ((List.range p).map fun (x : Nat) => foldR p h r (x : Int)) ++ ex p h rows := rfl
theorem ex_app {p h : Nat} {a b : List (List Int)} : ex p h (a ++ b) = ex p h a ++ ex p h b := by unfold ex; rw [List.flatMap_append]
theorem ex_len {p h : Nat} : ∀ rows : List (List Int), (ex p h rows).length = rows.length * p
  | [] => by simp [ex]
  | r :: rows => by rw [ex_cons, List.length_append, ex_len rows, List.length_map, List.length_range, List.length_cons, Nat.succ_mul, Nat.add_comm]
theorem ex_sum {p k : Nat} : ∀ rows : List (List Int), ((ex p (2 ^ k) rows).map (cnt p k)).sum = (rows.map (cnt p (k + 1))).sum
  | [] => rfl
  | r :: rows => by
    rw [ex_cons, List.map_append, List.sum_append, ex_sum rows, List.map_cons, List.sum_cons, List.map_map]
    rfl
/-- rows of one length, of residues -/
structure RowsOk (p h : Nat) (rows : List (List Int)) : Prop where
  len : ∀ r, r ∈ rows → r.length = h
  res : ∀ r, r ∈ rows → ∀ x, x ∈ r → Res p x
theorem RowsOk.ex {p h : Nat} (hp : 0 < p) (rows : List (List Int)) : RowsOk p h (ex p h rows) := by
  refine ⟨fun r hr => ?_, fun r hr => ?_⟩ <;>
  · obtain ⟨r', _, hx⟩ := List.mem_flatMap.mp hr
    obtain ⟨x, _, rfl⟩ := List.mem_map.mp hx
    first | exact foldR_len | exact foldR_res hp
theorem comp2L_map {β : Type} {b : FB} {t : FT} {fi1 : FI} {b1 : FB} {t1 : FT} {fe : FE} {vs1 : List Nat} {env : Sm.Env} {m : Mem} (enc : β → D) (vals : β → List D) : ∀ xs : List β,
    (∀ x, x ∈ xs → ∃ env1 items, b (enc x) env = .ok env1 ∧ t env1 m = .ok (true, m) ∧ fi1 env1 m = .ok (items, m) ∧ compL b1 t1 fe (wipeE env1 vs1) items m = .ok (vals x, m)) → comp2L b t fi1 b1 t1 fe vs1 env (xs.map enc) m = .ok (xs.flatMap vals, m)
  | [], _ => rfl
  | x :: xs, h => by
    obtain ⟨env1, items, h1, h2, h3, h4⟩ := h x List.mem_cons_self
    have ih := comp2L_map enc vals xs fun y hy => h y (List.mem_cons_of_mem _ hy)
    simp only [List.map_cons, comp2L, h1, h2, h3, h4, ih, List.flatMap_cons]
theorem ex_enc {p h : Nat} (rows : List (List Int)) : rows.flatMap (fun r => (List.range p).map fun (x : Nat) => rw1 (foldR p h r (x : Int))) = (ex p h rows).map rw1 := by
  unfold ex
  rw [List.map_flatMap]
  congr 1
  funext r
  rw [List.map_map]
  rfl
theorem belows_rows {n : Nat} {rows : List (List Int)} : belows n (rows.map rw1) = true := by
  rw [belows_all]
  simp [rw1]
theorem pow_le_of {p a b : Nat} (hp : 1 ≤ p) (h : a ≤ b) : p ^ a ≤ p ^ b := Nat.pow_le_pow_right hp h
theorem fComp2_eq' {c : Bool} {fi : FI} {b : FB} {t : FT} {fi1 : FI} {b1 : FB} {t1 : FT} {fe : FE} {vs vs1 : List Nat} {env : Sm.Env} {m : Mem} : fComp2 c fi b t fi1 b1 t1 fe vs vs1 env m = (match fi env m with
  | .ok (items, m1) => (match comp2L b t fi1 b1 t1 fe vs1 (wipeE env vs) items m1 with
    | .ok (ys, m2) => if ys.length ≤ sizeLine then .ok (mkL c ys m2) else .bad
    | .bad => .bad)
  | .bad => .bad) := Eq.trans rfl rfl
theorem parted_step {p : Nat} {row : D} {rows rows' : List (List Int)} (c : comp2L (bName 3) fYes (fRng1 (fCons (fVar 0) fNil)) (bName 4) fYes (fCall f_folded 3 (fCons (fVar 0) (fCons (fVar 3) (fCons (fVar 4) fNil)))) [4] [some (.int p), some row, some (.lst (rows.map rw1)), none, none] (rows.map rw1) [] = .ok (rows'.map rw1, [])) (hl : rows'.length ≤ 100000) :
    fAsg 2 (fComp2 false (fSeq (fVar 2)) (bName 3) fYes (fRng1 (fCons (fVar 0) fNil)) (bName 4) fYes (fCall f_folded 3 (fCons (fVar 0) (fCons (fVar 3) (fCons (fVar 4) fNil)))) [3, 4] [4]) [some (.int p), some row, some (.lst (rows.map rw1)), none, none] [] = .ok (.nx, [some (.int p), some row, some (.lst (rows'.map rw1)), none, none], []) := by
  simp [fComp2_eq', c]
  rw [if_pos (by omega)]
/-- taken apart to rows of four -/
theorem parted_ok {p : Nat} (hb : p < 2 ^ 61) (hp5 : 2 ≤ p) {k : Nat} (hk : 2 ≤ k) (hsmall : p ^ k ≤ 100000) {ns : List Int} (hns : ∀ x, x ∈ ns → Res p x) (hl : ns.length = 2 ^ k) {row : D} (hrow : Sq row (ns.map .int)) (m : Mem) :
    ∃ rows : List (List Int), f_parted [.int p, row] m = .ok (.lst (rows.map rw1), m) ∧ RowsOk p 4 rows ∧ (rows.map (cnt p 2)).sum = cnt p k ns ∧ rows.length ≤ 100000 := by
  have hpk : p ≤ 100000 := Nat.le_trans (by simpa using pow_le_of (p := p) (a := 1) (b := k) (by omega) (by omega)) hsmall
  have w := fWhile_inv (t := fTest (fBin (gCmp fun i j => decide (j < i)) (fBl gLen (fCons (fBin gIx (fVar 2) (fC (.int 0))) fNil)) (fC (.int 4))))
    (body := fAsg 2 (fComp2 false (fSeq (fVar 2)) (bName 3) fYes (fRng1 (fCons (fVar 0) fNil)) (bName 4) fYes (fCall f_folded 3 (fCons (fVar 0) (fCons (fVar 3) (fCons (fVar 4) fNil)))) [3, 4] [4]))
    (fun r env m => ∃ (j : Nat) (rows : List (List Int)), 2 ≤ j ∧ j ≤ k ∧ r = j ∧ env = [some (.int p), some row, some (.lst (rows.map rw1)), none, none] ∧ m = [] ∧ RowsOk p (2 ^ j) rows ∧ rows ≠ [] ∧ (rows.map (cnt p j)).sum = cnt p k ns ∧ rows.length ≤ p ^ (k - j))
    (fun env m => ∃ rows : List (List Int), env = [some (.int p), some row, some (.lst (rows.map rw1)), none, none] ∧ m = [] ∧ RowsOk p 4 rows ∧ (rows.map (cnt p 2)).sum = cnt p k ns ∧ rows.length ≤ 100000)
    (k := k) (env := [some (.int p), some row, some (.lst ([ns].map rw1)), none, none]) (m := []) (by
      have : k < 2 ^ k := Nat.lt_two_pow_self
      have : 2 ^ k ≤ p ^ k := Nat.pow_le_pow_left (by omega) k
      omega) ⟨k, [ns], hk, by omega, rfl, rfl, rfl, ⟨fun r hr => by rw [List.mem_singleton.mp hr]; exact hl, fun r hr => by rw [List.mem_singleton.mp hr]; exact hns⟩, by simp, by simp, by simp⟩ ?_
  · obtain ⟨env', m', e, rows, rfl, rfl, h1, h2⟩ := w
    refine ⟨rows, ?_, h1, h2⟩
    refine pure1_run (m' := []) (by simp [hrow.below]) (mkFn_run (env := [some (.int p), some row, some (.lst (rows.map rw1)), none, none]) ?_) (by simp [belows_rows])
    have hlist : gList false [row] [] = .ok (.lst (ns.map .int), []) := by cases hrow <;> rfl
    rw [show [ns].map rw1 = [D.lst (ns.map .int)] from rfl] at e
    have e' : fWhile (fTest (fBin (gCmp fun i j => decide (j < i)) (fBl gLen (fCons (fBin gIx (fVar 2) (fC (.int 0))) fNil)) (fC (.int 4)))) (fAsg 2 (fComp2 false (fSeq (fVar 2)) (bName 3) fYes (fRng1 (fCons (fVar 0) fNil)) (bName 4) fYes (fCall f_folded 3 (fCons (fVar 0) (fCons (fVar 3) (fCons (fVar 4) fNil)))) [3, 4] [4])) [some (.int p), some row, some (.lst [.lst (ns.map .int)]), none, none] [] = .ok (.nx, [some (.int p), some row, some (.lst (rows.map rw1)), none, none], []) := e
    simp [hlist, e']
  · rintro r env m ⟨j, rows, hj2, hjk, rfl, rfl, rfl, hro, hne, hsum, hlen⟩
    obtain ⟨r0, rows', rfl⟩ := List.exists_cons_of_ne_nil hne
    have hr0 := hro.len r0 List.mem_cons_self
    have htest : fTest (fBin (gCmp fun i j => decide (j < i)) (fBl gLen (fCons (fBin gIx (fVar 2) (fC (.int 0))) fNil)) (fC (.int 4))) [some (.int p), some row, some (.lst ((r0 :: rows').map rw1)), none, none] [] = .ok (decide ((4 : Int) < (2 ^ r : Nat)), []) := by
      simp only [List.map_cons]
      simp [atI_0, rw1, hr0]
    by_cases h : r = 2
    · left
      subst h
      exact ⟨[], htest, r0 :: rows', rfl, rfl, hro, hsum, Nat.le_trans hlen (Nat.le_trans (pow_le_of (by omega) (by omega)) hsmall)⟩
    · right
      obtain ⟨i, rfl⟩ : ∃ i, r = i + 1 := ⟨r - 1, by omega⟩
      have h4 : (4 : Int) < (2 ^ (i + 1) : Nat) := by
        have : 2 ^ 3 ≤ 2 ^ (i + 1) := Nat.pow_le_pow_right (by decide) (by omega)
        omega
      have hlen' : (ex p (2 ^ i) (r0 :: rows')).length ≤ p ^ (k - i) := by
        rw [ex_len, show k - i = k - (i + 1) + 1 by omega, Nat.pow_succ]
        exact Nat.mul_le_mul_right p hlen
      have hlen2 : (ex p (2 ^ i) (r0 :: rows')).length ≤ 100000 := Nat.le_trans hlen' (Nat.le_trans (pow_le_of (by omega) (by omega)) hsmall)
      have h2i : 2 ^ i ≤ 100000 := by
        have h1 : 2 ^ i ≤ 2 ^ k := Nat.pow_le_pow_right (by decide) (by omega)
        have h2 : 2 ^ k ≤ p ^ k := Nat.pow_le_pow_left (by omega) k
        omega
      have c := comp2L_map (b := bName 3) (t := fYes) (fi1 := fRng1 (fCons (fVar 0) fNil)) (b1 := bName 4) (t1 := fYes) (fe := fCall f_folded 3 (fCons (fVar 0) (fCons (fVar 3) (fCons (fVar 4) fNil)))) (vs1 := [4]) (env := [some (.int p), some row, some (.lst ((r0 :: rows').map rw1)), none, none]) (m := []) rw1 (fun r => (List.range p).map fun (x : Nat) => rw1 (foldR p (2 ^ i) r (x : Int))) (r0 :: rows') (fun r hr => by
        have rr : rangeD 0 (p : Int) = (List.range p).map fun (i : Nat) => D.int (i : Int) := range_map p
        refine ⟨_, (List.range p).map fun (i : Nat) => D.int (i : Int), rfl, rfl, by simp [rngStep1_ok (rngFits_nat (show p ≤ 1000000000 by omega)), rr], ?_⟩
        have c1 := compL_map (b := bName 4) (t := fYes) (fe := fCall f_folded 3 (fCons (fVar 0) (fCons (fVar 3) (fCons (fVar 4) fNil)))) (env := [some (.int p), some row, some (.lst ((r0 :: rows').map rw1)), some (rw1 r), none]) (m := []) (fun (i : Nat) => D.int (i : Int)) (fun _ => true) (fun x => rw1 (foldR p (2 ^ i) r (x : Int))) (List.range p) (fun x hx => by
          have hx := List.mem_range.mp hx
          have f := folded_ok hb (by omega) (hro.res r hr) (h := 2 ^ i) (by rw [hro.len r hr, Nat.pow_succ]; omega) h2i (row := rw1 r) (.lst _) (x := (x : Int)) ⟨by omega, by omega⟩ []
          refine ⟨_, rfl, rfl, fun _ => ⟨?_, by simp [rw1]⟩⟩
          simp [f]
          rfl)
        rw [List.filter_eq_self.mpr (fun _ _ => rfl)] at c1
        exact c1)
      rw [ex_enc] at c
      refine ⟨[], [some (.int p), some row, some (.lst ((ex p (2 ^ i) (r0 :: rows')).map rw1)), none, none], [], i, by rw [htest, decide_eq_true h4], ?_, by omega, i, ex p (2 ^ i) (r0 :: rows'), by omega, by omega, rfl, rfl, rfl, RowsOk.ex (by omega) _, ?_, by rw [ex_sum]; exact hsum, hlen'⟩
      · exact parted_step c hlen2
      · intro z
        have := congrArg List.length z
        rw [ex_len, List.length_cons, Nat.succ_mul] at this
        have this : rows'.length * p + p = 0 := this
        omega
end K60


set_option Elab.async false
set_option linter.all false
set_option maxRecDepth 100000
set_option maxHeartbeats 1000000
namespace K60
open PySem Sm Lb Nm
def nzf (ns : List Int) : List Int := ns.filter fun x => !decide (x = 0)
theorem nth_c0 {x : Int} {xs : List Int} : nth (x :: xs) 0 = x := rfl
theorem nth_cs {x : Int} {xs : List Int} {i : Nat} : nth (x :: xs) (i + 1) = nth xs i := by unfold nth; simp
theorem nth_nil {i : Nat} : nth [] i = 0 := by unfold nth; simp
theorem nz_zero : ∀ {ns : List Int}, (nzf ns).length = 0 → ∀ i, nth ns i = 0
  | [], _, i => nth_nil
  | x :: xs, h, i => by
    unfold nzf at h
    by_cases hx : x = 0
    · rw [List.filter_cons, if_neg (by simp [hx])] at h
      cases i with
      | zero => exact hx
      | succ i => rw [nth_cs]; exact nz_zero h i
    · rw [List.filter_cons, if_pos (by simp [hx])] at h
      simp at h
theorem nz_one : ∀ {ns : List Int}, (nzf ns).length = 1 → ∃ i, i < ns.length ∧ nth ns i ≠ 0 ∧ ∀ j, j ≠ i → nth ns j = 0
  | [], h => by simp [nzf] at h
  | x :: xs, h => by
    unfold nzf at h
    by_cases hx : x = 0
    · rw [List.filter_cons, if_neg (by simp [hx])] at h
      obtain ⟨i, h1, h2, h3⟩ := nz_one (ns := xs) h
      refine ⟨i + 1, by simpa using h1, by rw [nth_cs]; exact h2, fun j hj => ?_⟩
      cases j with
      | zero => exact hx
      | succ j => rw [nth_cs]; exact h3 j (by omega)
    · rw [List.filter_cons, if_pos (by simp [hx]), List.length_cons] at h
      refine ⟨0, by simp, hx, fun j hj => ?_⟩
      cases j with
      | zero => exact absurd rfl hj
      | succ j => rw [nth_cs]; exact nz_zero (ns := xs) (by unfold nzf; omega) j
theorem nz_two {a b : Int} (h : 2 ≤ (nzf [a, b]).length) : a ≠ 0 ∧ b ≠ 0 := by
  unfold nzf at h
  by_cases ha : a = 0 <;> by_cases hb : b = 0 <;> simp [ha, hb] at h ⊢
theorem nz_le {ns : List Int} : (nzf ns).length ≤ ns.length := List.length_filter_le _ _
theorem letters_in_ok {ns : List Int} {k : Nat} (hk : k ≤ 60) (hl : ns.length = 2 ^ k) {row : D} (hrow : Sq row (ns.map .int)) (m : Mem) : f_letters_in [row] m = .ok (.int k, m) := by
  have e := two_steps_ok (n := ((2 ^ k : Nat) : Int)) k hk rfl []
  refine pure1_run (m' := []) (by simp [hrow.below]) (mkFn_run (env := [some row]) ?_) (by simp)
  have hl' := hrow.len []
  rw [List.length_map, hl] at hl'
  generalize ((2 ^ k : Nat) : Int) = z at e hl'
  simp only [List.map_cons, List.map_nil, List.length_cons, List.length_nil, List.replicate, List.cons_append, List.nil_append, Nat.sub_self, List.append_nil]
  simp [hl', e]
theorem len_small {k : Nat} {ns : List Int} (hk : k ≤ 12) (hl : ns.length = 2 ^ k) : ns.length ≤ 4096 := by
  rw [hl]
  exact Nat.le_trans (Nat.pow_le_pow_right (by decide) hk) (by decide)
theorem sum_cast : ∀ (rows : List (List Int)) (f : List Int → Int) (g : List Int → Nat), (∀ r, r ∈ rows → f r = (g r : Int)) → (rows.map f).sum = (((rows.map g).sum : Nat) : Int)
  | [], _, _, _ => rfl
  | r :: rows, f, g, h => by
    simp only [List.map_cons, List.sum_cons]
    rw [h r List.mem_cons_self, sum_cast rows f g fun r hr => h r (List.mem_cons_of_mem _ hr)]
    omega
theorem sm_cnt {p : Nat} (hp : Pr p) (hb : p < 2 ^ 61) {k : Nat} (hk : k ≤ 2) {ns : List Int} (hns : ∀ x, x ∈ ns → Res p x) (hl : ns.length = 2 ^ k) : sm p ns = (cnt p k ns : Nat) := by
  match k, hk with
  | 0, _ =>
    match ns, hl with
    | [a], _ =>
      show (if a = 0 then 1 else 0) = (((if nth [a] 0 = 0 then 1 else 0) : Nat) : Int)
      rw [nth_c0]
      split <;> rfl
  | 1, _ =>
    match ns, hl with
    | [a, b], _ =>
      rw [cnt1_ok hp hb (hns a (by simp)) (hns b (by simp)) nth_c0 (by rw [nth_cs, nth_c0])]
      show (if a ≠ b then (1 : Int) else if a = 0 then (p : Int) else 0) = ((if a ≠ b then 1 else if a = 0 then p else 0 : Nat) : Int)
      split
      · rfl
      · split <;> rfl
  | 2, _ =>
    match ns, hl with
    | [a, b, c, d], _ =>
      rw [cnt2_ok hp hb (hns a (by simp)) (hns b (by simp)) (hns c (by simp)) (hns d (by simp)) rfl rfl rfl rfl]
      rfl
/-- the numbers that are not 0 -/
theorem nz_comp {ns : List Int} {v : Nat} {env : Sm.Env} {m : Mem} (hv : ∀ x : Int, fVar v (env.set v (some (.int x))) m = .ok (.int x, m)) :
    compL (bName v) (fTest (fBin (gEq true) (fVar v) (fC (.int 0)))) (fVar v) env (ns.map .int) m = .ok ((nzf ns).map .int, m) :=
  compL_map (b := bName v) (t := fTest (fBin (gEq true) (fVar v) (fC (.int 0)))) (fe := fVar v) (env := env) (m := m) D.int (fun x => !decide (x = 0)) D.int ns (fun x _ => ⟨_, rfl, by simp only [fTest_eq, fBin_eq, hv, fC_eq, gEq_int, if_true], fun _ => ⟨hv x, rfl⟩⟩)
theorem gSum_ints {ns : List Int} {m : Mem} : gSum [.lst (ns.map D.int)] m = .ok (.int ns.sum, m) := by
  have h : seqR m (.lst (ns.map D.int)) = some (ns.map D.int) := rfl
  unfold gSum
  simp only [h, intsD_map]
theorem natpow {p k : Nat} : ((p ^ k : Nat) : Int) = (p : Int) ^ k := by simp
theorem cb1 {p k z u v : Int} {row : D} {F : Fn} (e2 : F [.int p, .int k] [] = .ok (.int u, [])) (e3 : F [.int (p - 1), .int k] [] = .ok (.int v, [])) (d : decide (z = 1) = true) :
  fIfS (fTest (fBin (gEq false) (fVar 2) (fC (.int 1)))) (fRet (fBin gSub (fCall F 2 (fCons (fVar 0) (fCons (fVar 3) fNil))) (fCall F 2 (fCons (fBin gSub (fVar 0) (fC (.int 1))) (fCons (fVar 3) fNil))))) fNext [some (.int p), some row, some (.int z), some (.int k), none, none] [] = .ok (.rt (.int (u - v)), [some (.int p), some row, some (.int z), some (.int k), none, none], []) := by
  simp [d, e2, e3]
theorem then_nx {f g : FS} {env env1 : Sm.Env} {m m1 : Mem} (h : f env m = .ok (.nx, env1, m1)) : fThen f g env m = g env1 m1 := by rw [fThen_eq, h]
theorem then_rt {f g : FS} {env env1 : Sm.Env} {m m1 : Mem} {d : D} (h : f env m = .ok (.rt d, env1, m1)) : fThen f g env m = .ok (.rt d, env1, m1) := by rw [fThen_eq, h]
theorem b62 {p : Nat} (h1 : 1 ≤ p) (hb : p < 2 ^ 61) : ((p : Int) - 1).natAbs < 2 ^ 62 := by omega
theorem pow_diff {p k c : Nat} (h1 : 1 ≤ p) (h : c + (p - 1) ^ k = p ^ k) : (c : Int) = (p : Int) ^ k - ((p : Int) - 1) ^ k := by
  have h2 : ((p : Int) - 1) = ((p - 1 : Nat) : Int) := by omega
  rw [h2, ← natpow, ← natpow, ← h]
  omega
theorem noughts_in_ok {p : Nat} (hp : Pr p) (hb : p < 2 ^ 61) {k : Nat} (hk : k ≤ 12) {ns : List Int} (hns : ∀ x, x ∈ ns → Res p x) (hl : ns.length = 2 ^ k) (hc : 2 ≤ (nzf ns).length → 2 < k → p ^ k ≤ 100000) {row : D} (hrow : Sq row (ns.map .int)) (m : Mem) : f_noughts_in [.int p, row] m = .ok (.int (cnt p k ns : Nat), m) := by
  have hp2 := hp.1
  have hs := len_small hk hl
  have c := nz_comp (ns := ns) (v := 4) (env := [some (.int p), some row, none, none, none, none]) (m := []) (fun x => rfl)
  have sq := hrow.seq (fa := fVar 1) (env := [some (.int p), some row, none, none, none, none]) (m := []) (m1 := []) rfl
  have hs' : ns.length ≤ 16777216 := by omega
  have e1 := letters_in_ok (k := k) (by omega) hl hrow []
  have hlen := hrow.len []
  rw [List.length_map] at hlen
  refine pure1_run (m' := []) (by simp [hrow.below]) (mkFn_run (env := [some (.int p), some row, some (.int (nzf ns).length), some (.int k), none, none]) ?_) (by simp)
  simp only [List.map_cons, List.map_nil, List.length_cons, List.length_nil, List.replicate, List.cons_append, List.nil_append]
  by_cases h0 : (nzf ns).length = 0
  · have e2 := plain_power_ok (b := (p : Int)) (by omega) k (by omega) []
    have hz : cnt p k ns = p ^ k := cnt_zero (by omega) k ns fun i _ => nz_zero h0 i
    rw [hz, natpow]
    simp [sq, -fSeq_eq, hs', c, e1, e2, h0]
  · by_cases h1 : (nzf ns).length = 1
    · have e2 := plain_power_ok (b := (p : Int)) (by omega) k (by omega) []
      have e3 := plain_power_ok (b := (p : Int) - 1) (b62 (by omega) hb) k (by omega) []
      obtain ⟨i, i1, i2, i3⟩ := nz_one h1
      have hz := cnt_one hp k ns i (by omega) (getD_res hns (by omega) i) i2 fun j _ hj => i3 j hj
      have hz' := pow_diff (p := p) (by omega) hz
      rw [hz']
      clear hz' hz
      have h1' : (((nzf ns).length : Nat) : Int) = 1 := by omega
      have h0' : (nzf ns) ≠ [] := fun z => h0 (by rw [z]; rfl)
      have d0 : decide ((((nzf ns).length : Nat) : Int) = 0) = false := decide_eq_false (by omega)
      have d1 : decide ((((nzf ns).length : Nat) : Int) = 1) = true := decide_eq_true (by omega)
      refine (then_nx (env1 := [some (.int p), some row, some (.int (nzf ns).length), none, none, none]) (m1 := []) ?_).trans ((then_nx (env1 := [some (.int p), some row, some (.int (nzf ns).length), some (.int k), none, none]) (m1 := []) ?_).trans ((then_nx (env1 := [some (.int p), some row, some (.int (nzf ns).length), some (.int k), none, none]) (m1 := []) ?_).trans (then_rt (cb1 e2 e3 d1))))
      · simp [sq, -fSeq_eq, hs', c]
      · simp [e1]
      · simp [h0']
    · have hnil : nzf ns ≠ [] := fun z => h0 (by rw [z]; rfl)
      have h0' : ¬ ((nzf ns).length : Int) = 0 := by omega
      have h1' : ¬ ((nzf ns).length : Int) = 1 := by omega
      by_cases h4 : k ≤ 2
      · have hle : ns.length = 1 ∨ ns.length = 2 ∨ ns.length = 4 := by
          rw [hl]
          match k, h4 with
          | 0, _ => exact .inl rfl
          | 1, _ => exact .inr (.inl rfl)
          | 2, _ => exact .inr (.inr rfl)
        have e2 := small_ok hp hb hns hle hrow []
        rw [sm_cnt hp hb h4 hns hl] at e2
        have hle' : (ns.length : Int) ≤ 4 := by omega
        simp [sq, -fSeq_eq, hs', c, e1, e2, h0, h1, hnil, h0', h1', hlen, hle']
      · have hle : ¬ (ns.length : Int) ≤ 4 := by
          have : 2 ^ 3 ≤ 2 ^ k := Nat.pow_le_pow_right (by decide) (by omega)
          omega
        have hsmall := hc (by omega) (by omega)
        obtain ⟨rows, e2, hro, hsum, hrl⟩ := parted_ok hb hp2 (by omega) hsmall hns hl hrow []
        have c2 := compL_map (b := bName 5) (t := fYes) (fe := fCall f_small_noughts 2 (fCons (fVar 0) (fCons (fVar 5) fNil))) (env := [some (.int p), some row, some (.int (nzf ns).length), some (.int k), none, none]) (m := []) rw1 (fun _ => true) (fun r => D.int (sm p r)) rows (fun r hr => by
          have e := small_ok hp hb (hro.res r hr) (.inr (.inr (hro.len r hr))) (row := rw1 r) (.lst _) []
          refine ⟨_, rfl, rfl, fun _ => ⟨?_, rfl⟩⟩
          simp [e])
        rw [List.filter_eq_self.mpr (fun _ _ => rfl)] at c2
        have e3 : gSum [.lst (rows.map fun r => D.int (sm p r))] [] = .ok (.int (cnt p k ns : Nat), []) := by
          have : (rows.map fun r => D.int (sm p r)) = (rows.map (sm p)).map D.int := by rw [List.map_map]; rfl
          rw [this]
          rw [gSum_ints, sum_cast rows (sm p) (cnt p 2) fun r hr => sm_cnt hp hb (by omega) (hro.res r hr) (by rw [hro.len r hr]), hsum]
        have hrl' : rows.length ≤ 16777216 := by omega
        have sq2 : fSeq (fCall f_parted 2 (fCons (fVar 0) (fCons (fVar 1) fNil))) [some (.int p), some row, some (.int (nzf ns).length), some (.int k), none, none] [] = .ok (rows.map rw1, []) := by simp [e2]
        simp [sq, -fSeq_eq, hs', c, e1, h0, h1, hnil, h0', h1', hlen, hle, sq2, c2, e3, hrl']
theorem nought_points_ok {p : Nat} (hp : Pr p) (hb : p < 2 ^ 61) {k : Nat} (hk : k ≤ 12) {ns : List Int} (hns : ∀ x, x ∈ ns → Res p x) (hl : ns.length = 2 ^ k) (hc : 2 ≤ (nzf ns).length → 2 < k → p ^ k ≤ 100000) {row : D} (hrow : Sq row (ns.map .int)) (m : Mem) : f_nought_points [.int p, row] m = .ok (.int (cnt p k ns : Nat), m) := by
  have e := noughts_in_ok hp hb hk hns hl hc hrow []
  refine pure1_run (m' := []) (by simp [hrow.below]) (mkFn_run (env := [some (.int p), some row]) ?_) (by simp)
  simp only [List.map_cons, List.map_nil, List.length_cons, List.length_nil, List.replicate, List.cons_append, List.nil_append, List.append_nil, Nat.sub_self]
  simp [e]
end K60


set_option Elab.async false
set_option linter.all false
set_option maxRecDepth 100000
set_option maxHeartbeats 1000000
namespace K60
open PySem Sm Lb Nm
/-- what is held for the rows so far -/
def Held (v : D) (m : Mem) (rows : List (List Int)) : Prop := v = .lst (rows.map rw1) ∨ ∃ n, v = .loc n ∧ m[n]? = some (.lst (rows.map rw1))
theorem Held.frz {v : D} {m : Mem} {rows : List (List Int)} (h : Held v m rows) (t : Mem) : ∃ m1, frz1 v (m ++ t) = .ok (.lst (rows.map rw1), m1 ++ t) ∧ m1.length = m.length := by
  rcases h with rfl | ⟨n, rfl, hn⟩
  · exact ⟨m, rfl, rfl⟩
  · have hl : n < m.length := (List.getElem?_eq_some_iff.mp hn).1
    refine ⟨m.set n (.frz (.lst (rows.map rw1))), ?_, by simp⟩
    show (match (m ++ t)[n]? with
      | some (.lst ds) => Sm.R.ok (D.lst ds, (m ++ t).set n (.frz (.lst ds)))
      | some (.frz d) => .ok (d, m ++ t)
      | _ => .bad) = _
    rw [List.getElem?_append_left hl, hn, ← List.set_append_left _ _ hl]
theorem seq_of {fa : FE} {env : Sm.Env} {m m1 m2 : Mem} {d : D} {ds : List D} (h1 : fa env m = .ok (d, m1)) (h2 : frz1 d m1 = .ok (.lst ds, m2)) : fSeq fa env m = .ok (ds, m2) := by
  rw [fSeq_eq, h1]
  simp only [h2]
theorem append_at {fo fe : FE} {env : Sm.Env} {m : Mem} {ds : List D} {y : D} (ho : fo env (m ++ [.lst ds]) = .ok (.loc m.length, m ++ [.lst ds])) (he : fe env (m ++ [.lst ds]) = .ok (y, m ++ [.lst ds])) (hy : ∀ M, frz1 y M = .ok (y, M)) (hl : ds.length < 16777216) : fAppend fo fe env (m ++ [.lst ds]) = .ok (.non, m ++ [.lst (ds ++ [y])]) := by
  have hlive : live (m ++ [.lst ds]) (.loc m.length) = some (m.length, ds) := by
    unfold live
    simp
  unfold fAppend
  rw [ho]
  simp only [hlive, Option.isSome_some, if_true, he, hy, sizeLine_num, hl]
  simp
theorem range_take {n i : Nat} (h : i < n) : (List.range n)[i]? = some i := by simp [h]
theorem loop_ok {b : FB} {body : FS} {ds : List D} {env : Sm.Env} {m : Mem} (I : Nat → Sm.Env → Mem → Prop) (h0 : I 0 env m) (h : ∀ i d env m, ds[i]? = some d → I i env m → ∃ env1 env2 m2, b d env = .ok env1 ∧ body env1 m = .ok (.nx, env2, m2) ∧ I (i + 1) env2 m2) : ∃ env' m', forL b body ds env m = .ok (.nx, env', m') ∧ I ds.length env' m' := by
  have := forL_inv (b := b) (body := body) I ds 0 env m h0 fun i d env m hd hi => by
    rw [Nat.zero_add] at hi ⊢
    exact h i d env m hd hi
  rw [Nat.zero_add] at this
  exact this
def inB : FS := (fDrop (fAppend (fVar 4) (fCall f__law_line 4 (fCons (fVar 0) (fCons (fSl false (fVar 5) fNoP (fPart (fVar 6))) (fCons (fSl false (fVar 5) (fPart (fVar 6)) fNoP) (fCons (fVar 7) fNil)))))))
def outB : FS := (fThen (fAsg 6 (fBin gDiv (fBl gLen (fCons (fVar 5) fNil)) (fC (.int 2)))) (fFor (fRng1 (fCons (fVar 0) fNil)) (bName 7) inB))
def stB : FS := (fThen (fAsg 4 (fLst true fNil)) (fThen (fFor (fSeq (fVar 2)) (bName 5) outB) (fAsg 2 (fVar 4))))
theorem cut_lo {l : List D} {h : Nat} (hh : h ≤ l.length) : cutD l none (some (h : Int)) = l.take h := by
  unfold cutD
  rw [HT.sIx_nat, HT.sIx_none, List.drop_zero, Nat.sub_zero, Nat.min_eq_left hh]
theorem cut_hi {l : List D} {h : Nat} (hh : h ≤ l.length) : cutD l (some (h : Int)) none = l.drop h := by
  unfold cutD
  rw [HT.sIx_nat, HT.sIx_none, Nat.min_eq_left hh, List.take_of_length_le (by rw [List.length_drop]; omega)]
theorem nth_take {ns : List Int} {h i : Nat} (hi : i < h) : nth (ns.take h) i = nth ns i := by
  unfold nth
  rw [List.getD_eq_getElem?_getD, List.getD_eq_getElem?_getD, List.getElem?_take, if_pos hi]
theorem nth_drop {ns : List Int} {h i : Nat} : nth (ns.drop h) i = nth ns (h + i) := by
  unfold nth
  rw [List.getD_eq_getElem?_getD, List.getD_eq_getElem?_getD, List.getElem?_drop]
/-- one row more -/
theorem in_step {p : Nat} (hb : p < 2 ^ 61) (hp0 : 0 < p) {ns : List Int} (hns : ∀ x, x ∈ ns → Res p x) {h : Nat} (hl : ns.length = 2 * h) (hh : h ≤ 100000) {row v x3 : D} {x : Nat} (hx : x < p) {m : Mem} {acc : List (List Int)} (ha : acc.length < 16777216) :
    inB [some (.int p), some row, some v, some x3, some (.loc m.length), some (rw1 ns), some (.int h), some (.int x)] (m ++ [.lst (acc.map rw1)]) = .ok (.nx, [some (.int p), some row, some v, some x3, some (.loc m.length), some (rw1 ns), some (.int h), some (.int x)], m ++ [.lst ((acc ++ [foldR p h ns x]).map rw1)]) := by
  have e := law_line_ok (p := p) (ns := ns) (lo := ns.take h) (hi := ns.drop h) hb hp0 hns (h := h) (by rw [List.length_take]; omega) (by rw [List.length_drop]; omega) (fun i hi => nth_take hi) (fun i hi => nth_drop) hh (x := (x : Int)) ⟨by omega, by omega⟩ (m ++ [.lst (acc.map rw1)])
  have ap := append_at (fo := fVar 4) (fe := fCall f__law_line 4 (fCons (fVar 0) (fCons (fSl false (fVar 5) fNoP (fPart (fVar 6))) (fCons (fSl false (fVar 5) (fPart (fVar 6)) fNoP) (fCons (fVar 7) fNil))))) (env := [some (.int p), some row, some v, some x3, some (.loc m.length), some (rw1 ns), some (.int h), some (.int x)]) (m := m) (ds := acc.map rw1) (y := rw1 (foldR p h ns x)) rfl (by
    have g1 : ∀ M, gSl false (rw1 ns) none (some (h : Int)) M = .ok (.lst ((ns.take h).map .int), M) := fun M => by
      show Sm.R.ok (mkL false (cutD (ns.map D.int) none (some (h : Int))) M) = _
      rw [cut_lo (by rw [List.length_map]; omega), List.map_take]
      rfl
    have g2 : ∀ M, gSl false (rw1 ns) (some (h : Int)) none M = .ok (.lst ((ns.drop h).map .int), M) := fun M => by
      show Sm.R.ok (mkL false (cutD (ns.map D.int) (some (h : Int)) none) M) = _
      rw [cut_hi (by rw [List.length_map]; omega), List.map_drop]
      rfl
    simp [g1, g2, -List.map_take, -List.map_drop, e]
    rfl) (fun M => rfl) (by rw [List.length_map]; exact ha)
  unfold inB
  rw [fDrop_eq, ap, List.map_append]
  rfl
theorem in_loop {p : Nat} (hb : p < 2 ^ 61) (hp0 : 0 < p) (hp5 : p ≤ 100000) {ns : List Int} (hns : ∀ x, x ∈ ns → Res p x) {h : Nat} (hl : ns.length = 2 * h) (hh : h ≤ 100000) {row v x3 : D} {x6 x7 : Option D} {m : Mem} {acc : List (List Int)} (ha : acc.length ≤ 1000000) :
    ∃ y6 y7, outB [some (.int p), some row, some v, some x3, some (.loc m.length), some (rw1 ns), x6, x7] (m ++ [.lst (acc.map rw1)]) = .ok (.nx, [some (.int p), some row, some v, some x3, some (.loc m.length), some (rw1 ns), y6, y7], m ++ [.lst ((acc ++ (List.range p).map fun (x : Nat) => foldR p h ns (x : Int)).map rw1)]) := by
  have d2 := divFits_of 1 (show (0 : Int) < 2 by decide) (by decide) (by decide)
  have rr : rangeD 0 (p : Int) = (List.range p).map fun (i : Nat) => D.int (i : Int) := range_map p
  obtain ⟨env', m', e, y7, rfl, rfl⟩ := loop_ok (b := bName 7) (body := inB) (ds := rangeD 0 (p : Int)) (env := [some (.int p), some row, some v, some x3, some (.loc m.length), some (rw1 ns), some (.int h), x7]) (m := m ++ [.lst (acc.map rw1)])
    (fun i env m' => ∃ y7, env = [some (.int p), some row, some v, some x3, some (.loc m.length), some (rw1 ns), some (.int h), y7] ∧ m' = m ++ [.lst ((acc ++ (List.range i).map fun (x : Nat) => foldR p h ns (x : Int)).map rw1)]) ⟨x7, rfl, by simp⟩ (fun i d env m' hd hi => by
    obtain ⟨y7, rfl, rfl⟩ := hi
    rw [rr, List.getElem?_map] at hd
    have hip : i < p := by
      obtain ⟨j, hj, _⟩ := Option.map_eq_some_iff.mp hd
      have := (List.getElem?_eq_some_iff.mp hj).1
      simpa using this
    rw [range_take hip] at hd
    cases hd
    have st := in_step hb hp0 hns hl hh (row := row) (v := v) (x3 := x3) hip (m := m) (acc := acc ++ (List.range i).map fun (x : Nat) => foldR p h ns (x : Int)) (by simp; omega)
    refine ⟨_, _, _, rfl, st, some (.int i), rfl, ?_⟩
    have hq : acc ++ (List.range (i + 1)).map (fun (x : Nat) => foldR p h ns (x : Int)) = acc ++ (List.range i).map (fun (x : Nat) => foldR p h ns (x : Int)) ++ [foldR p h ns (i : Int)] := by
      rw [List.range_succ, List.map_append, List.append_assoc]
      rfl
    rw [hq])
  have hlen : (rangeD 0 (p : Int)).length = p := by rw [rr]; simp
  rw [hlen] at e
  refine ⟨some (.int h), y7, ?_⟩
  unfold outB
  refine (then_nx (env1 := [some (.int p), some row, some v, some x3, some (.loc m.length), some (rw1 ns), some (.int h), x7]) (m1 := m ++ [.lst (acc.map rw1)]) ?_).trans ?_
  · have gl : ∀ M, gLen [rw1 ns] M = .ok (.int (2 * h), M) := fun M => by
      show Sm.R.ok (D.int ((ns.map D.int).length : Nat), M) = _
      rw [List.length_map, hl]
      congr 3
    have e2 : (2 * (h : Int)) / 2 = h := by omega
    simp [gl, d2, e2]
  · rw [fFor_eq, fRng1_eq, fCons_eq, fVar_0]
    simp only [fNil_eq, rngStep1_ok (rngFits_nat (show p ≤ 1000000000 by omega))]
    exact e
theorem st_step {p : Nat} (hb : p < 2 ^ 61) (hp0 : 0 < p) (hp5 : p ≤ 100000) {h : Nat} (hh : h ≤ 100000) {rows : List (List Int)} (hr : RowsOk p (2 * h) rows) (hn : rows.length * p ≤ 1000000) {row v x3 : D} {x4 x5 x6 x7 : Option D} {m : Mem} (hv : Held v m rows) :
    ∃ v' y4 y5 y6 y7 m', stB [some (.int p), some row, some v, some x3, x4, x5, x6, x7] m = .ok (.nx, [some (.int p), some row, some v', some x3, y4, y5, y6, y7], m') ∧ Held v' m' (ex p h rows) := by
  obtain ⟨m1, hf, hml⟩ := hv.frz [.lst []]
  obtain ⟨env', m', e, y5, y6, y7, rfl, rfl⟩ := loop_ok (b := bName 5) (body := outB) (ds := rows.map rw1) (env := [some (.int p), some row, some v, some x3, some (.loc m1.length), x5, x6, x7]) (m := m1 ++ [.lst []])
    (fun i env m' => ∃ y5 y6 y7, env = [some (.int p), some row, some v, some x3, some (.loc m1.length), y5, y6, y7] ∧ m' = m1 ++ [.lst ((ex p h (rows.take i)).map rw1)]) ⟨x5, x6, x7, rfl, by simp [ex]⟩ (fun i d env m' hd hi => by
    obtain ⟨y5, y6, y7, rfl, rfl⟩ := hi
    rw [List.getElem?_map] at hd
    obtain ⟨r, hr', rfl⟩ := Option.map_eq_some_iff.mp hd
    have hmem := List.mem_of_getElem? hr'
    obtain ⟨z6, z7, st⟩ := in_loop hb hp0 hp5 (hr.res r hmem) (hr.len r hmem) hh (row := row) (v := v) (x3 := x3) (x6 := y6) (x7 := y7) (m := m1) (acc := ex p h (rows.take i)) (by
      rw [ex_len, List.length_take]
      exact Nat.le_trans (Nat.mul_le_mul_right p (Nat.min_le_right _ _)) hn)
    refine ⟨_, _, _, rfl, st, some (rw1 r), z6, z7, rfl, ?_⟩
    have ht : rows.take (i + 1) = rows.take i ++ [r] := by
      rw [List.take_add_one, hr']
      rfl
    rw [ht, ex_app, ex_cons, ex_nil, List.append_nil])
  rw [List.length_map, List.take_length] at e
  refine ⟨.loc m1.length, some (.loc m1.length), y5, y6, y7, m1 ++ [.lst ((ex p h rows).map rw1)], ?_, .inr ⟨_, rfl, by simp⟩⟩
  unfold stB
  refine (then_nx (env1 := [some (.int p), some row, some v, some x3, some (.loc m1.length), x5, x6, x7]) (m1 := m ++ [.lst []]) (by simp [hml])).trans ((then_nx (env1 := [some (.int p), some row, some v, some x3, some (.loc m1.length), y5, y6, y7]) (m1 := m1 ++ [.lst ((ex p h rows).map rw1)]) ?_).trans (by simp))
  rw [fFor_eq, seq_of (d := v) (fa := fVar 2) rfl hf]
  exact e
end K60


set_option Elab.async false
set_option linter.all false
set_option maxRecDepth 100000
set_option maxHeartbeats 1000000
namespace K60
open PySem Sm Lb Nm
theorem count_sum {p : Nat} : ∀ rows : List (List Int), (rows.filter fun r => decide (nth r 0 = 0)).length = (rows.map (cnt p 0)).sum
  | [] => rfl
  | r :: rows => by
    rw [List.filter_cons, List.map_cons, List.sum_cons, ← count_sum rows]
    show _ = (if nth r 0 = 0 then 1 else 0) + _
    by_cases h : nth r 0 = 0
    · rw [if_pos (by simp [h]), if_pos h, List.length_cons, Nat.add_comm]
    · rw [if_neg (by simp [h]), if_neg h, Nat.zero_add]
theorem law_points_ok {p : Nat} (hb : p < 2 ^ 61) (hp2 : 2 ≤ p) {k : Nat} (hk1 : 1 ≤ k) (hk : k ≤ 12) (hsmall : p ^ k ≤ 100000) {ns : List Int} (hns : ∀ x, x ∈ ns → Res p x) (hl : ns.length = 2 ^ k) {row : D} (hrow : Sq row (ns.map .int)) (m : Mem) : f__law_points [.int p, row] m = .ok (.int (cnt p k ns : Nat), m) := by
  have hpk : p ≤ 100000 := Nat.le_trans (by simpa using pow_le_of (p := p) (a := 1) (b := k) (by omega) (by omega)) hsmall
  have rr : rangeD 0 (k : Int) = (List.range k).map fun (i : Nat) => D.int (i : Int) := range_map k
  obtain ⟨env', m', e, v, y3, y4, y5, y6, y7, rows, rfl, hv, hro, hsum, hlen⟩ := loop_ok (b := bName 3) (body := stB) (ds := rangeD 0 (k : Int)) (env := [some (.int p), some row, some (.lst [rw1 ns]), none, none, none, none, none]) (m := [])
    (fun i env m => ∃ v y3 y4 y5 y6 y7 rows, env = [some (.int p), some row, some v, y3, y4, y5, y6, y7] ∧ Held v m rows ∧ RowsOk p (2 ^ (k - i)) rows ∧ (rows.map (cnt p (k - i))).sum = cnt p k ns ∧ rows.length ≤ p ^ i)
    ⟨.lst [rw1 ns], none, none, none, none, none, [ns], rfl, .inl rfl, ⟨fun r hr => by rw [List.mem_singleton.mp hr]; exact hl, fun r hr => by rw [List.mem_singleton.mp hr]; exact hns⟩, by simp, by simp⟩ (fun i d env m hd hi => by
    obtain ⟨v, y3, y4, y5, y6, y7, rows, rfl, hv, hro, hsum, hlen⟩ := hi
    have hik : i < k := by
      rw [rr] at hd
      have := (List.getElem?_eq_some_iff.mp hd).1
      simpa using this
    obtain ⟨j, hj⟩ : ∃ j, k - i = j + 1 := ⟨k - i - 1, by omega⟩
    rw [hj] at hro hsum
    rw [Nat.pow_succ, Nat.mul_comm] at hro
    have hlen2 : rows.length * p ≤ p ^ (i + 1) := by rw [Nat.pow_succ]; exact Nat.mul_le_mul_right p hlen
    have hle : p ^ (i + 1) ≤ 100000 := Nat.le_trans (pow_le_of (by omega) (by omega)) hsmall
    have h2 : 2 ^ j ≤ 100000 := by
      have h1 : 2 ^ j ≤ 2 ^ k := Nat.pow_le_pow_right (by decide) (by omega)
      have h2 : 2 ^ k ≤ p ^ k := Nat.pow_le_pow_left (by omega) k
      omega
    obtain ⟨v', z4, z5, z6, z7, m', st, hv'⟩ := st_step hb (by omega) hpk h2 hro (by omega) (row := row) (x3 := d) (x4 := y4) (x5 := y5) (x6 := y6) (x7 := y7) hv
    have hk2 : k - (i + 1) = j := by omega
    refine ⟨_, _, m', rfl, st, v', some d, z4, z5, z6, z7, ex p (2 ^ j) rows, rfl, hv', ?_, ?_, ?_⟩
    · rw [hk2]; exact RowsOk.ex (by omega) _
    · rw [hk2, ex_sum]; exact hsum
    · rw [ex_len]; exact hlen2)
  have hlen0 : (rangeD 0 (k : Int)).length = k := by rw [rr]; simp
  rw [hlen0] at hro hsum hlen
  rw [Nat.sub_self] at hro hsum
  obtain ⟨m1, hf, _⟩ := hv.frz []
  rw [List.append_nil, List.append_nil] at hf
  have hL := hrow.len []
  rw [List.length_map, hl] at hL
  have hlet := letters_ok (n := ((2 ^ k : Nat) : Int)) k (by omega) rfl []
  refine pure1_run (m' := m1) (by simp [hrow.below]) (mkFn_run (env := [some (.int p), some row, some v, y3, y4, y5, y6, y7]) ?_) (by simp)
  have hlist : gList false [row] [] = .ok (.lst (ns.map .int), []) := by cases hrow <;> rfl
  refine (then_nx (env1 := [some (.int p), some row, some (.lst [rw1 ns]), none, none, none, none, none]) (m1 := []) (by simp [hlist]; rfl)).trans ((then_nx (env1 := [some (.int p), some row, some v, y3, y4, y5, y6, y7]) (m1 := m') ?_).trans ?_)
  · have hr : fRng1 (fCons (fCall f__law_letters 1 (fCons (fBl gLen (fCons (fVar 1) fNil)) fNil)) fNil) [some (.int p), some row, some (.lst [rw1 ns]), none, none, none, none, none] [] = .ok (rangeD 0 (k : Int), []) := by
      generalize ((2 ^ k : Nat) : Int) = z at hL hlet
      simp [hL, hlet, rngStep1_ok (rngFits_nat (show k ≤ 1000000000 by omega))]
    rw [fFor_eq, hr]
    exact e
  · have c := compL_map (b := bName 5) (t := fTest (fBin (gEq false) (fBin gIx (fVar 5) (fC (.int 0))) (fC (.int 0)))) (fe := fVar 5) (env := [some (.int p), some row, some v, y3, y4, none, y6, y7]) (m := m1) rw1 (fun r => decide (nth r 0 = 0)) rw1 rows (fun r hr => by
      have a0 := at_int (ns := r) (i := 0) (by rw [hro.len r hr]; decide)
      refine ⟨_, rfl, ?_, fun _ => ⟨rfl, rfl⟩⟩
      have a1 : L2.atI (r.map D.int) 0 = some (.int (nth r 0)) := a0
      simp [rw1, a1])
    have hs := seq_of (fa := fVar 2) (env := [some (.int p), some row, some v, y3, y4, y5, y6, y7]) (d := v) rfl hf
    have hrl : rows.length ≤ 16777216 := by
      have : p ^ k ≤ 100000 := hsmall
      omega
    have hcnt : (((rows.filter fun r => decide (nth r 0 = 0)).length : Nat) : Int) = ((cnt p k ns : Nat) : Int) := by rw [count_sum (p := p), hsum]
    rw [← hcnt]
    simp [-fSeq_eq, hs, hrl, c]
theorem cb2 {p k u v : Int} {row : D} {l : List Int} {F : Fn} (e2 : F [.int p, .int k] [] = .ok (.int u, [])) (e3 : F [.int (p - 1), .int k] [] = .ok (.int v, [])) (d : decide (((l.length : Nat) : Int) = 1) = true) :
    fIfS (fTest (fBin (gEq false) (fBl gLen (fCons (fVar 3) fNil)) (fC (.int 1)))) (fRet (fBin gSub (fCall F 2 (fCons (fVar 0) (fCons (fVar 2) fNil))) (fCall F 2 (fCons (fBin gSub (fVar 0) (fC (.int 1))) (fCons (fVar 2) fNil))))) fNext [some (.int p), some row, some (.int k), some (.lst (l.map .int)), none] [] = .ok (.rt (.int (u - v)), [some (.int p), some row, some (.int k), some (.lst (l.map .int)), none], []) := by
  have h : gLen [.lst (l.map .int)] [] = .ok (.int (l.length : Nat), []) := by rw [gLen_lst, List.length_map]
  generalize ((l.length : Nat) : Int) = z at d h
  simp [-gLen_lst, h, d, e2, e3]
theorem law_noughts_ok {p : Nat} (hp : Pr p) (hb : p < 2 ^ 61) {k : Nat} (hk : k ≤ 12) {ns : List Int} (hns : ∀ x, x ∈ ns → Res p x) (hl : ns.length = 2 ^ k) (hc : 2 ≤ (nzf ns).length → 2 < k → p ^ k ≤ 100000) {row : D} (hrow : Sq row (ns.map .int)) (m : Mem) : f__law_noughts [.int p, row] m = .ok (.int (cnt p k ns : Nat), m) := by
  have hp2 := hp.1
  have hs := len_small hk hl
  have c := nz_comp (ns := ns) (v := 4) (env := [some (.int p), some row, none, none, none]) (m := []) (fun x => rfl)
  have sq := hrow.seq (fa := fVar 1) (env := [some (.int p), some row, none, none, none]) (m := []) (m1 := []) rfl
  have hs' : ns.length ≤ 16777216 := by omega
  have hL := hrow.len []
  rw [List.length_map] at hL
  have hlet := letters_ok (n := (ns.length : Int)) k (by omega) (by rw [hl]) []
  refine pure1_run (m' := []) (by simp [hrow.below]) (mkFn_run (env := [some (.int p), some row, some (.int k), some (.lst ((nzf ns).map .int)), none]) ?_) (by simp)
  refine (then_nx (env1 := [some (.int p), some row, some (.int k), some (.lst ((nzf ns).map .int)), none]) (m1 := []) (by simp [sq, -fSeq_eq, hs', c, hL, hlet])).trans ?_
  by_cases h0 : (nzf ns).length = 0
  · have e2 := law_power_ok (b := (p : Int)) (by omega) k (by omega) []
    have hz : cnt p k ns = p ^ k := cnt_zero (by omega) k ns fun i _ => nz_zero h0 i
    have hn : nzf ns = [] := List.eq_nil_of_length_eq_zero h0
    rw [hz, natpow]
    refine then_rt ?_
    have g := gEq_nil (c := false) (ns := nzf ns) (m := [])
    rw [hn] at g
    simp only [List.map_nil] at g
    simp [hn, g, e2]
  · have hn : nzf ns ≠ [] := fun z => h0 (by rw [z]; rfl)
    have hemp : (nzf ns).isEmpty = false := by cases e : nzf ns with
      | nil => exact absurd e hn
      | cons _ _ => rfl
    have g := gEq_nil (c := false) (ns := nzf ns) (m := [])
    rw [hemp] at g
    refine (then_nx (env1 := [some (.int p), some row, some (.int k), some (.lst ((nzf ns).map .int)), none]) (m1 := []) (by simp [g])).trans ?_
    by_cases h1 : (nzf ns).length = 1
    · have e2 := law_power_ok (b := (p : Int)) (by omega) k (by omega) []
      have e3 := law_power_ok (b := (p : Int) - 1) (b62 (by omega) hb) k (by omega) []
      obtain ⟨i, i1, i2, i3⟩ := nz_one h1
      have hz := cnt_one hp k ns i (by omega) (getD_res hns (by omega) i) i2 fun j _ hj => i3 j hj
      have hz' := pow_diff (p := p) (by omega) hz
      rw [hz']
      have d1 : decide ((((nzf ns).length : Nat) : Int) = 1) = true := decide_eq_true (by omega)
      exact then_rt (cb2 e2 e3 d1)
    · have d1 : decide ((((nzf ns).length : Nat) : Int) = 1) = false := decide_eq_false (by omega)
      refine (then_nx (env1 := [some (.int p), some row, some (.int k), some (.lst ((nzf ns).map .int)), none]) (m1 := []) (by simp only [fIfS_eq, fTest_eq, fBin_eq, fBl_eq, fCons_eq, fNil_eq, fVar_3, fVar_2, fVar_1, fVar_0, gLen_lst, List.length_map, fC_eq, gEq_int, Bool.false_eq_true, if_false, d1, fNext_eq])).trans ?_
      have hge : 2 ≤ (nzf ns).length := by omega
      by_cases hk1 : k = 1
      · subst hk1
        match ns, hl with
        | [a, b], _ =>
          obtain ⟨ha, hb0⟩ := nz_two hge
          have hz := cnt1_ok hp hb (hns a (by simp)) (hns b (by simp)) (ns := [a, b]) nth_c0 (by rw [nth_cs, nth_c0])
          refine then_rt ?_
          rw [hz]
          unfold lineN
          have x0 := hrow.ix (i := 0) (d := .int a) atI_0 []
          have x1 := hrow.ix (i := 1) (d := .int b) atI_1 []
          have hL2 : gLen [row] [] = .ok (.int 2, []) := hL
          by_cases hab : a = b
          · rw [if_neg (fun z => z hab), if_neg ha]
            subst hab
            simp [hL2, x0, x1]
          · rw [if_pos hab]
            simp [hL2, x0, x1, hab]
      · have hk0 : k ≠ 0 := fun z => by
          subst z
          have := nz_le (ns := ns)
          omega
        have hl2 : ns.length ≠ 2 := by
          have : 2 ^ 2 ≤ 2 ^ k := Nat.pow_le_pow_right (by decide) (by omega)
          omega
        have hl2' : ¬ ((ns.length : Int) = 2) := by omega
        refine (then_nx (env1 := [some (.int p), some row, some (.int k), some (.lst ((nzf ns).map .int)), none]) (m1 := []) (by simp [hL, hl2'])).trans ?_
        by_cases hk2 : k = 2
        · subst hk2
          match ns, hl with
          | [a, b, c, d], _ =>
            have hz := cnt2_ok hp hb (hns a (by simp)) (hns b (by simp)) (hns c (by simp)) (hns d (by simp)) (ns := [a, b, c, d]) rfl rfl rfl rfl
            rw [hz]
            have e4 := law_square_ok hb (by omega) (hns a (by simp)) (hns b (by simp)) (hns c (by simp)) (hns d (by simp)) hrow []
            have hL4 : gLen [row] [] = .ok (.int 4, []) := hL
            simp [hL4, e4]
        · have hl4 : ¬ ((ns.length : Int) = 4) := by
            have : 2 ^ 3 ≤ 2 ^ k := Nat.pow_le_pow_right (by decide) (by omega)
            omega
          have e5 := law_points_ok hb hp2 (by omega) hk (hc hge (by omega)) hns hl hrow []
          simp [hL, hl4, e5]
end K60


set_option Elab.async false
set_option linter.all false
set_option maxRecDepth 100000
set_option maxHeartbeats 1000000
namespace K60
open PySem Sm Lb Nm
/-! where draws come from -/
structure St where
  cs : List Int
  mix : Int
structure Good (s : St) : Prop where
  len : s.cs.length ≤ 63
  lo : 0 ≤ s.mix
  hi : s.mix < 2147483647
def dm (s : St) : Mem := [.lst (s.cs.map .int), .lst [.loc 0, .int s.mix]]
theorem frzD_below {m : Mem} : ∀ {ds : List D}, belows 2 ds = true → frzD 2 ds m = .ok (ds, m)
  | [], _ => rfl
  | d :: ds, h => by
    rw [belows_cons, Bool.and_eq_true] at h
    have h1 : frzD1 2 d m = .ok (d, m) := by
      cases d with
      | loc k =>
        have : k < 2 := by simpa using h.1
        show (if k < 2 then Sm.R.ok (D.loc k, m) else frz1 (.loc k) m) = _
        rw [if_pos this]
      | _ => rfl
    show (match frzD1 2 d m with
      | .ok (d', m1) => (match frzD 2 ds m1 with
        | .ok (ds', m2) => Sm.R.ok (d' :: ds', m2)
        | .bad => .bad)
      | .bad => .bad) = _
    rw [h1]
    simp only [frzD_below h.2]
theorem dm_cells (s : St) : (dm s).all (cellBelow 2) = true := by
  show (belows 2 (s.cs.map .int) && (belows 2 [.loc 0, .int s.mix] && true)) = true
  rw [belows_ints]
  rfl
/-- a def that draws, by what it does to what is drawn from alone -/
theorem deal_run {g : Fn} {ds : List D} {s s' : St} {d d' : D} {ex ex' : Mem} (hb : belows 2 ds = true) (hg : g ds (dm s) = .ok (d, dm s' ++ ex)) (hf : frz1 d (dm s' ++ ex) = .ok (d', dm s' ++ ex')) (hd : below 2 d' = true) (rest : Mem) : deal1 g ds (dm s ++ rest) = .ok (d', dm s' ++ rest) := by
  unfold deal1
  rw [frzD_below hb]
  have ht : (dm s ++ rest).take 2 = dm s := rfl
  have hd2 : (dm s ++ rest).drop 2 = rest := rfl
  have ht' : (dm s' ++ ex').take 2 = dm s' := rfl
  have hl : 2 ≤ (dm s ++ rest).length := by rw [List.length_append]; exact Nat.le_add_right _ _
  have hl' : 2 ≤ (dm s' ++ ex').length := by rw [List.length_append]; exact Nat.le_add_right _ _
  simp only [ht, hd2, hb, hl, dm_cells, and_self, if_true, hg, hf, hd, hl', ht']
/-- it draws d and leaves s' -/
def Run (g : Fn) (ds : List D) (s : St) (d : D) (s' : St) : Prop := ∀ rest, g ds (dm s ++ rest) = .ok (d, dm s' ++ rest)
theorem Run.z {g : Fn} {ds : List D} {s s' : St} {d : D} (h : Run g ds s d s') : g ds (dm s) = .ok (d, dm s') := by
  have := h []
  rw [List.append_nil, List.append_nil] at this
  exact this
mutual
theorem below_mono : ∀ {d : D}, below 0 d = true → below 2 d = true
  | .non, _ => rfl
  | .bl _, _ => rfl
  | .int _, _ => rfl
  | .str _, _ => rfl
  | .tup ds, h => by rw [below_tup] at h ⊢; exact belows_mono h
  | .lst ds, h => by rw [below_lst] at h ⊢; exact belows_mono h
  | .scr ds, h => by rw [below_scr] at h ⊢; exact belows_mono h
  | .obj _ fs, h => by simp only [below] at h ⊢; exact belowf_mono h
  | .loc k, h => by simp at h
theorem belows_mono : ∀ {ds : List D}, belows 0 ds = true → belows 2 ds = true
  | [], _ => rfl
  | d :: ds, h => by
    rw [belows_cons, Bool.and_eq_true] at h ⊢
    exact ⟨below_mono h.1, belows_mono h.2⟩
theorem belowf_mono : ∀ {ds : List (Str × D)}, belowf 0 ds = true → belowf 2 ds = true
  | [], _ => rfl
  | (_, d) :: ds, h => by
    simp only [belowf, Bool.and_eq_true] at h ⊢
    exact ⟨below_mono h.1, belowf_mono h.2⟩
end
theorem deal_run0 {n : Nat} {body : FS} {ds : List D} {s s' : St} {d : D} {env : Sm.Env} {ex : Mem} (hb : belows 2 ds = true) (hg : body (ds.map some ++ List.replicate (n - ds.length) none) (dm s) = .ok (.rt d, env, dm s' ++ ex)) (hd : below 0 d = true) : Run (deal1 (mkFn n body)) ds s d s' := fun rest =>
  deal_run hb (mkFn_run hg) (below_frz1 hd) (below_mono hd) rest
theorem atI_last {ns : List Int} (h : ns ≠ []) : L2.atI (ns.map D.int) (-1) = some (.int (ns.getLast h)) := by
  have hl : ns.length ≠ 0 := fun z => h (List.eq_nil_of_length_eq_zero z)
  unfold L2.atI L2.ixN
  rw [if_neg (by decide), List.length_map, if_pos (by omega)]
  show (ns.map D.int)[((-1 : Int) + ns.length).toNat]? = _
  have : ((-1 : Int) + ns.length).toNat = ns.length - 1 := by omega
  rw [this, List.getElem?_map, ← List.getLast?_eq_getElem?, List.getLast?_eq_some_getLast h]
  rfl
theorem dm_ix0 {s : St} {rest : Mem} : gIx (.loc 1) (.int 0) (dm s ++ rest) = .ok (.loc 0, dm s ++ rest) := rfl
theorem dm_ix1 {s : St} {rest : Mem} : gIx (.loc 1) (.int 1) (dm s ++ rest) = .ok (.int s.mix, dm s ++ rest) := rfl
theorem dm_eq {c : Bool} {s : St} {rest : Mem} : gEq c (.loc 0) (.lst []) (dm s ++ rest) = .ok (.bl (if c then !s.cs.isEmpty else s.cs.isEmpty), dm s ++ rest) := by
  unfold gEq
  have e0 : eqS (.loc 0) (.lst []) = none := by unfold eqS; rfl
  have e1 : pyT (dm s ++ rest) (.loc 0) = some (.list (s.cs.map PyData.int)) := by
    show (match seqL (dm s ++ rest) (.loc 0) with
      | some ds => (pyDs (dm s ++ rest) ds).map PyData.list
      | none => none) = _
    show (pyDs (dm s ++ rest) (s.cs.map .int)).map PyData.list = _
    rw [pyDs_ints]
    rfl
  have e2 : pyT (dm s ++ rest) (.lst []) = some (.list []) := by simp [pyT, pyD, pyDs]
  rw [e0, e1, e2]
  have s1 := shaped_ints s.cs
  have s2 := shaped_ints []
  simp only [List.map_nil] at s2
  simp only [s1, s2, Bool.and_self, if_true]
  cases s.cs <;> rfl
def cellsE : FE := (fBin gIx (fVar 0) (fC (.int 0)))
theorem pop_ok {s : St} (h : s.cs ≠ []) {env : Sm.Env} (he : env[0]? = some (some (.loc 1))) : fPop cellsE env (dm s) = .ok (.int (s.cs.getLast h), dm ⟨s.cs.dropLast, s.mix⟩) := by
  have e1 : cellsE env (dm s) = .ok (.loc 0, dm s) := by
    unfold cellsE
    rw [fBin_eq]
    have : fVar 0 env (dm s) = .ok (.loc 1, dm s) := by unfold fVar; rw [he]
    rw [this]
    rfl
  have hl : live (dm s) (.loc 0) = some (0, s.cs.map .int) := rfl
  unfold fPop
  rw [e1]
  simp only [hl]
  have : (s.cs.map D.int)[(s.cs.map D.int).length - 1]? = some (.int (s.cs.getLast h)) := by
    rw [List.length_map, List.getElem?_map, ← List.getLast?_eq_getElem?, List.getLast?_eq_some_getLast h]
    rfl
  simp only [this]
  show Sm.R.ok (D.int (s.cs.getLast h), (dm s).set 0 (.lst (s.cs.map D.int).dropLast)) = _
  rw [← List.map_dropLast]
  rfl
theorem any_ok {s : St} (g : Good s) {b : Int} (hb0 : 0 < b) (hb : b < 2 ^ 62) : ∃ r s', 0 ≤ r ∧ r < b ∧ Good s' ∧ Run f__law_any [.loc 1, .int b] s (.int r) s' := by
  have dv : divFits b = true := divFits_of 62 hb0 (by omega) (by decide)
  have dv64 : divFits 64 = true := divFits_of 6 (by decide) (by decide) (by decide)
  have w := fWhile_inv (t := fAnd (fTest (fBin (gEq true) cellsE (fLst false fNil))) (fTest (fBin (gEq false) (fBin gIx cellsE (fUn gNeg (fC (.int 1)))) (fC (.int 0))))) (body := fDrop (fPop cellsE))
    (fun r env m => ∃ cs : List Int, cs.length ≤ 63 ∧ r = cs.length ∧ env = [some (.loc 1), some (.int b), none] ∧ m = dm ⟨cs, s.mix⟩)
    (fun env m => ∃ cs : List Int, cs.length ≤ 63 ∧ env = [some (.loc 1), some (.int b), none] ∧ m = dm ⟨cs, s.mix⟩)
    (k := s.cs.length) (env := [some (.loc 1), some (.int b), none]) (m := dm s) (by have := g.len; omega) ⟨s.cs, g.len, rfl, rfl, rfl⟩ (by
      rintro r env m ⟨cs, hl, rfl, rfl, rfl⟩
      have c0 : cellsE [some (.loc 1), some (.int b), none] (dm ⟨cs, s.mix⟩) = .ok (.loc 0, dm ⟨cs, s.mix⟩) := rfl
      have hq : gEq true (.loc 0) (.lst []) (dm ⟨cs, s.mix⟩) = .ok (.bl (!cs.isEmpty), dm ⟨cs, s.mix⟩) := by
        have := dm_eq (c := true) (s := ⟨cs, s.mix⟩) (rest := [])
        rw [List.append_nil] at this
        exact this
      by_cases h : cs = []
      · left
        subst h
        exact ⟨dm ⟨[], s.mix⟩, by simp [c0, hq], [], by decide, rfl, rfl⟩
      · have hne : cs.isEmpty = false := by cases cs with
          | nil => exact absurd rfl h
          | cons _ _ => rfl
        have hix : gIx (.loc 0) (.int (-1)) (dm ⟨cs, s.mix⟩) = .ok (.int (cs.getLast h), dm ⟨cs, s.mix⟩) := by
          show (match L2.atI (cs.map D.int) (-1) with | some d => Sm.R.ok (d, dm ⟨cs, s.mix⟩) | none => .bad) = _
          rw [atI_last h]
        by_cases hz : cs.getLast h = 0
        · right
          refine ⟨dm ⟨cs, s.mix⟩, _, dm ⟨cs.dropLast, s.mix⟩, cs.dropLast.length, by simp [c0, hq, hne, hix, hz], ?_, ?_, cs.dropLast, ?_, rfl, rfl, rfl⟩
          · rw [fDrop_eq, pop_ok (s := ⟨cs, s.mix⟩) h rfl]
          · have : cs.length ≠ 0 := fun z => h (List.eq_nil_of_length_eq_zero z)
            rw [List.length_dropLast]; omega
          · rw [List.length_dropLast]; omega
        · left
          exact ⟨dm ⟨cs, s.mix⟩, by simp [c0, hq, hne, hix, hz], cs, hl, rfl, rfl⟩)
  obtain ⟨env', m', e, cs, hl, rfl, rfl⟩ := w
  have c0 : ∀ x : Option D, cellsE [some (.loc 1), some (.int b), x] (dm ⟨cs, s.mix⟩) = .ok (.loc 0, dm ⟨cs, s.mix⟩) := fun _ => rfl
  have hq : gEq true (.loc 0) (.lst []) (dm ⟨cs, s.mix⟩) = .ok (.bl (!cs.isEmpty), dm ⟨cs, s.mix⟩) := by
    have := dm_eq (c := true) (s := ⟨cs, s.mix⟩) (rest := [])
    rw [List.append_nil] at this
    exact this
  by_cases h : cs = []
  · -- the mix
    subst h
    have hm : mulFits s.mix 48271 = true := mulFits_of 31 31 (by have := g.lo; have := g.hi; omega) (by decide) (by decide)
    refine ⟨((s.mix * 48271 + 31) % 2147483647) / 64 % b, ⟨[], (s.mix * 48271 + 31) % 2147483647⟩, Int.emod_nonneg _ (by omega), Int.emod_lt_of_pos _ hb0, ⟨Nat.zero_le _, Int.emod_nonneg _ (by decide), Int.emod_lt_of_pos _ (by decide)⟩, ?_⟩
    refine deal_run0 (ex := []) (by simp) ?_ (by simp) (env := [some (.loc 1), some (.int b), none])
    rw [List.append_nil]
    refine (then_nx e).trans ((then_nx (env1 := [some (.loc 1), some (.int b), none]) (m1 := dm ⟨[], s.mix⟩) ?_).trans ((then_nx (env1 := [some (.loc 1), some (.int b), none]) (m1 := dm ⟨[], (s.mix * 48271 + 31) % 2147483647⟩) ?_).trans ?_))
    · have hcell : fTest (fBin (gEq true) cellsE (fLst false fNil)) [some (.loc 1), some (.int b), none] (dm ⟨[], s.mix⟩) = .ok (false, dm ⟨[], s.mix⟩) := by simp [c0, hq]
      rw [fIfS_eq]
      unfold cellsE at hcell
      rw [hcell]
      rfl
    · have i1 := dm_ix1 (s := ⟨[], s.mix⟩) (rest := [])
      rw [List.append_nil] at i1
      have hv : fBin gMod (fBl gInt (fCons (fBin (gAdd false) (fBin (gMul false) (fBin gIx (fVar 0) (fC (.int 1))) (fC (.int 48271))) (fC (.int 31))) fNil)) (fC (.int 2147483647)) [some (.loc 1), some (.int b), none] (dm ⟨[], s.mix⟩) = .ok (.int ((s.mix * 48271 + 31) % 2147483647), dm ⟨[], s.mix⟩) := by
        simp [i1, hm]
      have hv0 : fVar 0 [some (.loc 1), some (.int b), none] (dm ⟨[], s.mix⟩) = .ok (.loc 1, dm ⟨[], s.mix⟩) := rfl
      have hlive : live (dm ⟨[], s.mix⟩) (.loc 1) = some (1, [.loc 0, .int s.mix]) := rfl
      unfold fSetIxR
      rw [hv]
      simp only [hv0, fC_eq, hlive]
      rfl
    · have i1 := dm_ix1 (s := ⟨[], (s.mix * 48271 + 31) % 2147483647⟩) (rest := [])
      rw [List.append_nil] at i1
      generalize (s.mix * 48271 + 31) % 2147483647 = z at i1 ⊢
      simp [i1, dv64, hb0]
  · have hne : cs.isEmpty = false := by cases cs with
      | nil => exact absurd rfl h
      | cons _ _ => rfl
    have hlen0 : cs.length ≠ 0 := fun z => h (List.eq_nil_of_length_eq_zero z)
    obtain ⟨c, hc⟩ : ∃ c, c = cs.getLast h := ⟨_, rfl⟩
    refine ⟨c % b, ⟨cs.dropLast ++ [c / b], s.mix⟩, Int.emod_nonneg _ (by omega), Int.emod_lt_of_pos _ hb0, ⟨by simp; omega, g.lo, g.hi⟩, ?_⟩
    refine deal_run0 (ex := []) (by simp) ?_ (by simp) (env := [some (.loc 1), some (.int b), some (.int c)])
    rw [List.append_nil]
    refine (then_nx e).trans (then_rt ?_)
    have hcell : fTest (fBin (gEq true) cellsE (fLst false fNil)) [some (.loc 1), some (.int b), none] (dm ⟨cs, s.mix⟩) = .ok (true, dm ⟨cs, s.mix⟩) := by simp [c0, hq, hne]
    unfold cellsE at hcell
    rw [fIfS_eq, hcell]
    have hp := pop_ok (s := ⟨cs, s.mix⟩) h (env := [some (.loc 1), some (.int b), none]) rfl
    rw [← hc] at hp
    refine (then_nx (env1 := [some (.loc 1), some (.int b), some (.int c)]) (m1 := dm ⟨cs.dropLast, s.mix⟩) ?_).trans ((then_nx (env1 := [some (.loc 1), some (.int b), some (.int c)]) (m1 := dm ⟨cs.dropLast ++ [c / b], s.mix⟩) ?_).trans ?_)
    · unfold cellsE at hp
      simp [hp]
    · have c1 : fBin gIx (fVar 0) (fC (.int 0)) [some (.loc 1), some (.int b), some (.int c)] (dm ⟨cs.dropLast, s.mix⟩) = .ok (.loc 0, dm ⟨cs.dropLast, s.mix⟩) := rfl
      have hlive : live (dm ⟨cs.dropLast, s.mix⟩) (.loc 0) = some (0, cs.dropLast.map .int) := rfl
      have hv : fBin gDiv (fVar 2) (fVar 1) [some (.loc 1), some (.int b), some (.int c)] (dm ⟨cs.dropLast, s.mix⟩) = .ok (.int (c / b), dm ⟨cs.dropLast, s.mix⟩) := by simp [dv]
      rw [fDrop_eq]
      unfold fAppend
      rw [c1]
      simp only [hlive, Option.isSome_some, if_true, hv, frz1_int, List.length_map, List.length_dropLast, sizeLine_num]
      rw [if_pos (by omega)]
      show Sm.R.ok (Fl.nx, _, (dm ⟨cs.dropLast, s.mix⟩).set 0 (.lst (cs.dropLast.map D.int ++ [.int (c / b)]))) = _
      rw [show cs.dropLast.map D.int ++ [D.int (c / b)] = (cs.dropLast ++ [c / b]).map D.int by rw [List.map_append]; rfl]
      rfl
    · simp [hb0]
end K60


set_option Elab.async false
set_option linter.all false
set_option maxRecDepth 100000
set_option maxHeartbeats 1000000
namespace K60
open PySem Sm Lb Nm
theorem of_ok {s : St} (g : Good s) {opts : List D} (hn : opts ≠ []) (hl : opts.length ≤ 1000) (hb : belows 0 opts = true) : ∃ d s', d ∈ opts ∧ Good s' ∧ Run f__law_of [.loc 1, .lst opts] s d s' := by
  have hl0 : opts.length ≠ 0 := fun z => hn (List.eq_nil_of_length_eq_zero z)
  obtain ⟨r, s', h0, h1, g', e⟩ := any_ok g (b := (opts.length : Int)) (by omega) (by omega)
  obtain ⟨j, rfl⟩ : ∃ j : Nat, r = j := ⟨r.toNat, by omega⟩
  have hj : j < opts.length := by omega
  have hat : L2.atI opts (j : Int) = some opts[j] := L2.atI_nat (List.getElem?_eq_getElem hj)
  have hbj : below 0 opts[j] = true := by
    rw [belows_all] at hb
    exact List.all_eq_true.mp hb _ (List.getElem_mem hj)
  refine ⟨opts[j], s', List.getElem_mem hj, g', deal_run0 (ex := []) (by simp [belows_mono hb]) (env := [some (.loc 1), some (.lst opts)]) ?_ hbj⟩
  have ez := e.z
  simp [ez, hat]
theorem gAdd_lst {a b : List D} {m : Mem} (h : a.length + b.length ≤ 16777216) : gAdd false (.lst a) (.lst b) m = .ok (.lst (a ++ b), m) := by
  show (if a.length + b.length ≤ sizeLine then Sm.R.ok (mkL false (a ++ b) m) else .bad) = _
  rw [sizeLine_num, if_pos h]
  rfl
def pl1 : List Int := [5, 5, 7, 2305843009213693951, 2305843009213693951]
def pl2 : List Int := [11, 13, 17, 31, 101, 127, 257, 16381, 65537, 1000003, 2147483647, 4294967291, 34359738337, 999999999989, 1152921504606846883, 2305843009213693921]
theorem pl_ok : ∀ i, i ∈ pl1 ++ pl2 → ∃ p, p ∈ primes ∧ i = (p : Int) := fun i hi => by
  have h : (pl1 ++ pl2).all (fun i => primes.any fun p => decide (i = (p : Int))) = true := by decide +kernel
  obtain ⟨p, hp, e⟩ := List.any_eq_true.mp (List.all_eq_true.mp h i hi)
  exact ⟨p, hp, of_decide_eq_true e⟩
theorem prime_ok {s : St} (g : Good s) : ∃ p s', p ∈ primes ∧ Good s' ∧ Run f__law_prime [.loc 1] s (.int (p : Nat)) s' := by
  obtain ⟨d, s', hd, g', e⟩ := of_ok g (opts := pl1.map D.int ++ pl2.map D.int) (by simp [pl1]) (by simp [pl1, pl2]) (by rw [← List.map_append]; exact belows_ints)
  rw [← List.map_append] at hd
  obtain ⟨i, hi, rfl⟩ := List.mem_map.mp hd
  obtain ⟨p, hp, rfl⟩ := pl_ok i hi
  refine ⟨p, s', hp, g', deal_run0 (ex := []) (by simp) (env := [some (.loc 1), some (.lst (pl2.map .int))]) ?_ (by simp)⟩
  have ez := e.z
  have hadd := gAdd_lst (a := pl1.map D.int) (b := pl2.map D.int) (m := dm s) (by simp [pl1, pl2])
  refine (then_nx (env1 := [some (.loc 1), some (.lst (pl2.map .int))]) (m1 := dm s) (by simp [pl2])).trans ?_
  have h1 : fLst false (fCons (fC (.int 5)) (fCons (fC (.int 5)) (fCons (fC (.int 7)) (fCons (fC (.int 2305843009213693951)) (fCons (fC (.int 2305843009213693951)) fNil))))) [some (.loc 1), some (.lst (pl2.map .int))] (dm s) = .ok (.lst (pl1.map .int), dm s) := by simp [pl1]
  simp only [fRet_eq, fCall_eq, fCons_eq, fNil_eq, fBin_eq, fVar_0, fVar_1, h1, hadd, List.length_cons, List.length_nil, Nat.zero_add, Nat.reduceAdd, if_true, ez, List.append_nil]
theorem cells_test {s : St} {e1 : Sm.Env} : fTest (fBin (gEq true) (fBin gIx (fVar 0) (fC (.int 0))) (fLst false fNil)) (some (.loc 1) :: e1) (dm s) = .ok (!s.cs.isEmpty, dm s) := by
  have hq : gEq true (.loc 0) (.lst []) (dm s) = .ok (.bl (!s.cs.isEmpty), dm s) := by
    have := dm_eq (c := true) (s := s) (rest := [])
    rw [List.append_nil] at this
    exact this
  have c0 : gIx (.loc 1) (.int 0) (dm s) = .ok (.loc 0, dm s) := rfl
  simp [c0, hq]
theorem residue_ok {p : Nat} (hb : p < 2 ^ 61) (hp5 : 5 ≤ p) {s : St} (g : Good s) : ∃ r s', Res p r ∧ Good s' ∧ Run f__law_residue [.loc 1, .int p] s (.int r) s' := by
  obtain ⟨k, s1, k0, k1, g1, e1⟩ := any_ok g (b := 6) (by decide) (by decide)
  have ez1 := e1.z
  have st1 : fAsg 2 (fCall f__law_any 2 (fCons (fVar 0) (fCons (fC (.int 6)) fNil))) [some (.loc 1), some (.int p), none] (dm s) = .ok (.nx, [some (.loc 1), some (.int p), some (.int k)], dm s1) := by simp [ez1]
  by_cases hk : k < 2
  · obtain ⟨j, s2, j0, j1, g2, e2⟩ := any_ok g1 (b := 2) (by decide) (by decide)
    have ez2 := e2.z
    have f2 : mulFits 2 k = true := mulFits_of 2 3 (by decide) (by omega) (by decide)
    have fin : ∀ v, Res p v → L2.atI [D.int 0, D.int 1, D.int ((p : Int) - 1), D.int 2] (2 * k + j) = some (.int v) → ∃ r s', Res p r ∧ Good s' ∧ Run f__law_residue [.loc 1, .int p] s (.int r) s' := fun v hv hat => by
      refine ⟨v, s2, hv, g2, deal_run0 (ex := []) (by simp) (env := [some (.loc 1), some (.int p), some (.int k)]) ?_ (by simp)⟩
      refine (then_nx st1).trans (then_rt ?_)
      simp [hk, ez2, f2, hat]
    rcases (show k = 0 ∨ k = 1 by omega) with rfl | rfl <;> rcases (show j = 0 ∨ j = 1 by omega) with rfl | rfl
    · exact fin 0 ⟨by decide, by omega⟩ atI_0
    · exact fin 1 ⟨by decide, by omega⟩ atI_1
    · exact fin (p - 1) ⟨by omega, by omega⟩ atI_2
    · exact fin 2 ⟨by decide, by omega⟩ atI_3
  · have st2 : fIfS (fTest (fBin (gCmp fun i j => decide (i < j)) (fVar 2) (fC (.int 2)))) (fRet (fBin gIx (fLst false (fCons (fC (.int 0)) (fCons (fC (.int 1)) (fCons (fBin gSub (fVar 1) (fC (.int 1))) (fCons (fC (.int 2)) fNil))))) (fBin (gAdd false) (fBin (gMul false) (fC (.int 2)) (fVar 2)) (fCall f__law_any 2 (fCons (fVar 0) (fCons (fC (.int 2)) fNil)))))) fNext [some (.loc 1), some (.int p), some (.int k)] (dm s1) = .ok (.nx, [some (.loc 1), some (.int p), some (.int k)], dm s1) := by simp [hk]
    have ct := cells_test (s := s1) (e1 := [some (.int p), some (.int k)])
    by_cases hc : s1.cs.isEmpty = true
    · obtain ⟨u, s2, u0, u1, g2, e2⟩ := any_ok g1 (b := 33554393) (by decide) (by decide)
      obtain ⟨v, s3, v0, v1, g3, e3⟩ := any_ok g2 (b := 33554393) (by decide) (by decide)
      have ez2 := e2.z
      have ez3 := e3.z
      have f2 : mulFits u 68719476767 = true := mulFits_of 26 37 (by omega) (by decide) (by decide)
      have hp0 : 0 < p := by omega
      refine ⟨(u * 68719476767 + v) % p, s3, Res.mod hp0 _, g3, deal_run0 (ex := []) (by simp) (env := [some (.loc 1), some (.int p), some (.int k)]) ?_ (by simp)⟩
      rw [hc] at ct
      refine (then_nx st1).trans ((then_nx st2).trans ((then_nx (env1 := [some (.loc 1), some (.int p), some (.int k)]) (m1 := dm s1) (by rw [fIfS_eq, ct]; rfl)).trans ?_))
      simp [ez2, ez3, f2, hp0]
    · obtain ⟨u, s2, u0, u1, g2, e2⟩ := any_ok g1 (b := (p : Int)) (by omega) (by omega)
      have ez2 := e2.z
      have hc' : s1.cs.isEmpty = false := by simpa using hc
      refine ⟨u, s2, ⟨u0, u1⟩, g2, deal_run0 (ex := []) (by simp) (env := [some (.loc 1), some (.int p), some (.int k)]) ?_ (by simp)⟩
      rw [hc'] at ct
      refine (then_nx st1).trans ((then_nx st2).trans (then_rt ?_))
      rw [fIfS_eq, ct]
      simp [ez2]
theorem res_loop {p : Nat} (hb : p < 2 ^ 61) (hp5 : 5 ≤ p) {x2 : Option D} : ∀ (items : List D) (s : St), Good s → ∃ (ns : List Int) (s' : St), ns.length = items.length ∧ (∀ x, x ∈ ns → Res p x) ∧ Good s' ∧ compL (bName 3) fYes (fCall f__law_residue 2 (fCons (fVar 0) (fCons (fVar 1) fNil))) [some (.loc 1), some (.int p), x2, none] items (dm s) = .ok (ns.map .int, dm s')
  | [], s, g => ⟨[], s, rfl, fun x hx => by simp at hx, g, rfl⟩
  | d :: items, s, g => by
    obtain ⟨r, s1, hr, g1, e1⟩ := residue_ok hb hp5 g
    obtain ⟨ns, s2, hl, hns, g2, e2⟩ := res_loop hb hp5 (x2 := x2) items s1 g1
    have ez1 := e1.z
    have h1 : fCall f__law_residue 2 (fCons (fVar 0) (fCons (fVar 1) fNil)) [some (.loc 1), some (.int p), x2, some d] (dm s) = .ok (.int r, dm s1) := by simp [ez1]
    refine ⟨r :: ns, s2, by simp [hl], fun x hx => ?_, g2, ?_⟩
    · rcases List.mem_cons.mp hx with rfl | h
      · exact hr
      · exact hns x h
    · simp only [compL, bName_eq, fYes_eq]
      have hset : ([some (.loc 1), some (.int p), x2, none] : Sm.Env).set 3 (some d) = [some (.loc 1), some (.int p), x2, some d] := rfl
      rw [hset, h1]
      simp only [frz1_int, e2, List.map_cons]
theorem residues_ok {p : Nat} (hb : p < 2 ^ 61) (hp5 : 5 ≤ p) {s : St} (g : Good s) {n : Nat} (hn : n ≤ 100000) : ∃ (ns : List Int) (s' : St), ns.length = n ∧ (∀ x, x ∈ ns → Res p x) ∧ Good s' ∧ Run f__law_residues [.loc 1, .int p, .int n] s (.tup (ns.map .int)) s' := by
  have rr : rangeD 0 (n : Int) = (List.range n).map fun (i : Nat) => D.int (i : Int) := range_map n
  obtain ⟨ns, s', hl, hns, g', e⟩ := res_loop hb hp5 (x2 := some (.int n)) (rangeD 0 (n : Int)) s g
  have hlen : (rangeD 0 (n : Int)).length = n := by rw [rr]; simp
  rw [hlen] at hl
  refine ⟨ns, s', hl, hns, g', deal_run0 (ex := []) (by simp) (env := [some (.loc 1), some (.int p), some (.int n), none]) ?_ (by simp)⟩
  have hn' : n ≤ 16777216 := by omega
  simp [rngStep1_ok (rngFits_nat (show n ≤ 1000000000 by omega)), hlen, hn', e]
theorem twos_ok (k : Nat) (hk : k ≤ 60) (m : Mem) : f__law_twos [.int k] m = .ok (.int ((2 ^ k : Nat) : Int), m) := by
  have rr : rangeD 0 (k : Int) = (List.range k).map fun (i : Nat) => D.int (i : Int) := range_map k
  have hlen : (rangeD 0 (k : Int)).length = k := by rw [rr]; simp
  obtain ⟨env', m', e, q, x, rfl, hq, rfl⟩ := loop_ok (b := bName 2) (body := fAsg 1 (fBin (gMul false) (fC (.int 2)) (fVar 1))) (ds := rangeD 0 (k : Int)) (env := [some (.int k), some (.int 1), none]) (m := [])
    (fun i env m => ∃ (q : Int) (x : Option D), env = [some (.int k), some (.int q), x] ∧ q = ((2 ^ i : Nat) : Int) ∧ m = []) ⟨1, none, rfl, rfl, rfl⟩ (fun i d env m hd hi => by
    obtain ⟨q, x, rfl, hq, rfl⟩ := hi
    have hik : i < k := by
      have := (List.getElem?_eq_some_iff.mp hd).1
      rw [hlen] at this
      exact this
    have f := mulFits_of 1 60 (show (2 : Int).natAbs < 2 ^ (1 + 1) by decide) (pow2_lt (by omega) hq) (by decide)
    exact ⟨_, _, [], rfl, by simp [f], 2 * q, some d, rfl, pow2_succ hq, rfl⟩)
  rw [hlen] at hq
  subst hq
  refine pure1_run (m' := []) rfl (mkFn_run (env := [some (.int k), some (.int ((2 ^ k : Nat) : Int)), x]) ?_) rfl
  generalize ((2 ^ k : Nat) : Int) = z at e ⊢
  simp [rngStep1_ok (rngFits_nat (show k ≤ 1000000000 by omega)), e]
end K60


set_option Elab.async false
set_option linter.all false
set_option maxRecDepth 100000
set_option maxHeartbeats 1000000
namespace K60
open PySem Sm Lb Nm
theorem setix_ok {fo fi fe : FE} {env : Sm.Env} {m m1 : Mem} {v i : Int} {n k : Nat} {ds : List D} (he : fe env m = .ok (.int v, m1)) (ho : fo env m1 = .ok (.loc n, m1)) (hi : fi env m1 = .ok (.int i, m1)) (hl : live m1 (.loc n) = some (n, ds)) (hk : L2.ixN ds.length i = some k) : fSetIxR fo fi fe env m = .ok (.nx, env, m1.set n (.lst (ds.set k (.int v)))) := by
  unfold fSetIxR
  rw [he]
  simp only [ho, hi, hl, hk]
/-- the same, the place drawn -/
theorem setix_ok2 {fo fi fe : FE} {env : Sm.Env} {m m1 m2 : Mem} {v i : Int} {n k : Nat} {ds : List D} (he : fe env m = .ok (.int v, m1)) (ho : fo env m1 = .ok (.loc n, m1)) (hi : fi env m1 = .ok (.int i, m2)) (hl : live m2 (.loc n) = some (n, ds)) (hk : L2.ixN ds.length i = some k) : fSetIxR fo fi fe env m = .ok (.nx, env, m2.set n (.lst (ds.set k (.int v)))) := by
  unfold fSetIxR
  rw [he]
  simp only [ho, hi, hl, hk]
theorem ixN_nat {n k : Nat} (h : k < n) : L2.ixN n (k : Int) = some k := by
  unfold L2.ixN
  rw [if_pos (by omega), if_pos (by omega)]
  rfl
theorem nzf_rep (n : Nat) : nzf (List.replicate n 0) = [] := by
  unfold nzf
  rw [List.filter_eq_nil_iff]
  intro a ha
  rw [(List.mem_replicate.mp ha).2]
  decide
theorem nzf_set {v : Int} : ∀ (n r : Nat), (nzf ((List.replicate n 0).set r v)).length ≤ 1
  | 0, r => by simp [nzf]
  | n + 1, 0 => by
    rw [List.replicate_succ, List.set_cons_zero]
    unfold nzf
    have := nzf_rep n
    unfold nzf at this
    rw [List.filter_cons, this]
    split <;> simp
  | n + 1, r + 1 => by
    rw [List.replicate_succ, List.set_cons_succ]
    have := nzf_set (v := v) n r
    unfold nzf at this ⊢
    rw [List.filter_cons]
    exact this
theorem mem_set_res {p : Nat} {ns : List Int} {k : Nat} {v : Int} (hns : ∀ x, x ∈ ns → Res p x) (hv : Res p v) : ∀ x, x ∈ ns.set k v → Res p x := fun x hx => by
  rcases List.mem_or_eq_of_mem_set hx with h | h
  · exact hns x h
  · rw [h]; exact hv
theorem map_set_int {ns : List Int} {k : Nat} {v : Int} : (ns.map D.int).set k (.int v) = (ns.set k v).map D.int := by rw [List.map_set]
theorem one_alone_ok {p : Nat} (hb : p < 2 ^ 61) (hp5 : 5 ≤ p) {s : St} (g : Good s) {n : Nat} (hn0 : 1 ≤ n) (hn : n ≤ 100000) : ∃ (ns : List Int) (s' : St), ns.length = n ∧ (∀ x, x ∈ ns → Res p x) ∧ (nzf ns).length ≤ 1 ∧ Good s' ∧ Run f__law_one_alone [.loc 1, .int p, .int n] s (.tup (ns.map .int)) s' := by
  obtain ⟨r, s1, r0, r1, g1, e1⟩ := any_ok g (b := (n : Int)) (by omega) (by omega)
  obtain ⟨j, rfl⟩ : ∃ j : Nat, r = j := ⟨r.toNat, by omega⟩
  have ez1 := e1.z
  have rr : rangeD 0 (n : Int) = (List.range n).map fun (i : Nat) => D.int (i : Int) := range_map n
  have hlen : (rangeD 0 (n : Int)).length = n := by rw [rr]; simp
  have hn' : n ≤ 16777216 := by omega
  have c := compL_map (b := bName 5) (t := fYes) (fe := fC (.int 0)) (env := [some (.loc 1), some (.int p), some (.int n), none, none, none]) (m := dm s1) (fun (i : Nat) => D.int (i : Int)) (fun _ => true) (fun _ => D.int 0) (List.range n) (fun x _ => ⟨_, rfl, rfl, fun _ => ⟨rfl, rfl⟩⟩)
  rw [List.filter_eq_self.mpr (fun _ _ => rfl), ← rr] at c
  have hz : (List.range n).map (fun _ => D.int 0) = (List.replicate n (0 : Int)).map D.int := by
    rw [List.map_const', List.map_replicate, List.length_range]
  rw [hz] at c
  obtain ⟨Z, hZ⟩ : ∃ Z, Z = (List.replicate n (0 : Int)).map D.int := ⟨_, rfl⟩
  rw [← hZ] at c
  have h3 := comp_ok (c := true) (vs := [5]) (env := [some (.loc 1), some (.int p), some (.int n), none, none, none]) (fi := fRng1 (fCons (fVar 2) fNil)) (rng_ok (cons_ok rfl nil_ok) (rngFits_nat (show n ≤ 1000000000 by omega))) (by rw [hlen]; exact hn') c
  rw [mkL_t] at h3
  have st1 : fPar 3 4 (fCons (fCall f__law_any 2 (fCons (fVar 0) (fCons (fVar 2) fNil))) (fCons (fComp true (fRng1 (fCons (fVar 2) fNil)) (bName 5) fYes (fC (.int 0)) [5]) fNil)) [some (.loc 1), some (.int p), some (.int n), none, none, none] (dm s) = .ok (.nx, [some (.loc 1), some (.int p), some (.int n), some (.int (j : Int)), some (.loc 2), none], dm s1 ++ [.lst Z]) :=
    par_ok (cons_ok (call_ok (cons_ok rfl (cons_ok rfl nil_ok)) rfl ez1) (cons_ok h3 nil_ok))
  have fin : ∀ (v : Int) (s3 : St), Res p v → Good s3 → (fIf (fTest (fBin (gEq false) (fCall f__law_any 2 (fCons (fVar 0) (fCons (fC (.int 2)) fNil))) (fC (.int 0)))) (fBin (gAdd false) (fC (.int 1)) (fCall f__law_any 2 (fCons (fVar 0) (fCons (fBl gMin2 (fCons (fBin gSub (fVar 1) (fC (.int 1))) (fCons (fC (.int 999)) fNil))) fNil)))) (fBin gSub (fVar 1) (fC (.int 1)))) [some (.loc 1), some (.int p), some (.int n), some (.int (j : Int)), some (.loc 2), none] (dm s1 ++ [.lst Z]) = .ok (.int v, dm s3 ++ [.lst Z]) → ∃ (ns : List Int) (s' : St), ns.length = n ∧ (∀ x, x ∈ ns → Res p x) ∧ (nzf ns).length ≤ 1 ∧ Good s' ∧ Run f__law_one_alone [.loc 1, .int p, .int n] s (.tup (ns.map .int)) s' := fun v s3 hv g3 hev => by
    have hj : j < n := by omega
    have st2 := setix_ok (fo := fVar 4) (fi := fVar 3) hev (n := 2) rfl rfl (ds := Z) rfl (k := j) (by rw [hZ, List.length_map, List.length_replicate]; exact ixN_nat hj)
    have hset : Z.set j (.int v) = ((List.replicate n (0 : Int)).set j v).map D.int := by rw [hZ, map_set_int]
    rw [hset] at st2
    refine ⟨(List.replicate n 0).set j v, s3, by simp, mem_set_res (fun x hx => by rw [(List.mem_replicate.mp hx).2]; exact ⟨by decide, by omega⟩) hv, nzf_set n j, g3, ?_⟩
    refine deal_run0 (ex := [.lst (((List.replicate n (0 : Int)).set j v).map D.int)]) (by simp) (env := [some (.loc 1), some (.int p), some (.int n), some (.int (j : Int)), some (.loc 2), none]) ?_ (by rw [below_tup]; exact belows_ints)
    exact thn_nx st1 (thn_nx st2 (ret_ok (bl_ok (cons_ok rfl nil_ok) rfl)))
  obtain ⟨u, s2, u0, u1, g2, e2⟩ := any_ok g1 (b := 2) (by decide) (by decide)
  have ez2 := e2 [.lst Z]
  have hcall := call_ok (k := f__law_any) (n := 2) (fr := fCons (fVar 0) (fCons (fC (.int 2)) fNil)) (env := [some (.loc 1), some (.int p), some (.int n), some (.int (j : Int)), some (.loc 2), none]) (cons_ok rfl (cons_ok rfl nil_ok)) rfl ez2
  by_cases hu : u = 0
  · obtain ⟨w, s3, w0, w1, g3, e3⟩ := any_ok g2 (b := if 999 < (p : Int) - 1 then 999 else (p : Int) - 1) (by split <;> omega) (by split <;> omega)
    have ez3 := e3 [.lst Z]
    have hw : w < (p : Int) - 1 := by split at w1 <;> omega
    refine fin (1 + w) s3 ⟨by omega, by omega⟩ g3 (if_t (tst_ok (bin_ok hcall rfl (eq_t hu))) (bin_ok rfl (call_ok (cons_ok rfl (cons_ok (bl_ok (cons_ok (bin_ok rfl rfl gSub_int) (cons_ok rfl nil_ok)) gMin2_int) nil_ok)) rfl ez3) gAdd_int))
  · exact fin (p - 1) s2 ⟨by omega, by omega⟩ g2 (if_f (tst_ok (bin_ok hcall rfl (eq_f hu))) (bin_ok rfl rfl gSub_int))
theorem countable4 {p : Nat} (m : Mem) : f__law_countable [.int p, .int 4] m = .ok (.bl true, m) := by
  refine pure1_run (m' := []) rfl (mkFn_run (env := [some (.int p), some (.int 4)]) ?_) rfl
  simp
/-- lists of numbers in cells -/
def pre (ls : List (List Int)) : Mem := ls.map fun l => .lst (l.map .int)
theorem pre_app {a b : List (List Int)} : pre (a ++ b) = pre a ++ pre b := by unfold pre; rw [List.map_append]
theorem flat_ints {ns : List Int} : (ns.map D.int).all flatD = true := by simp [flatD]
theorem keep_ok {env : Sm.Env} {s : St} {ls : List (List Int)} {ns : List Int} {x3 : D} {fo : Nat} (hv : fVar 3 env (dm s ++ (pre ls ++ [Cell.lst (ns.map .int)])) = .ok (.loc (2 + ls.length), dm s ++ (pre ls ++ [Cell.lst (ns.map .int)]))) (hs : ns.length ≤ 4096) (h6 : ∀ x : Int, ∀ M, fVar 6 ((wipeE env [6]).set 6 (some (.int x))) M = .ok (.int x, M)) :
    fKeepT (fTest (fBin (gEq false) (fComp false (fSeq (fVar 3)) (bName 6) (fTest (fBin (gEq true) (fVar 6) (fC (.int 0)))) (fVar 6) [6]) (fLst false fNil))) env (dm s ++ (pre ls ++ [Cell.lst (ns.map .int)])) = .ok ((nzf ns).isEmpty, dm s ++ (pre ls ++ [Cell.lst (ns.map .int)])) := by
  have hfz : frz1 (.loc (2 + ls.length)) (dm s ++ (pre ls ++ [Cell.lst (ns.map .int)])) = .ok (.lst (ns.map .int), dm s ++ (pre ls ++ [Cell.frz (.lst (ns.map .int))])) := by
    have hpl : (pre ls).length = ls.length := by unfold pre; rw [List.length_map]
    have hget : (dm s ++ (pre ls ++ [Cell.lst (ns.map .int)]))[2 + ls.length]? = some (.lst (ns.map .int)) := by
      rw [← List.append_assoc, List.getElem?_append_right (by rw [List.length_append, hpl]; exact Nat.le_refl _), List.length_append, hpl]
      show [Cell.lst (ns.map D.int)][2 + ls.length - (2 + ls.length)]? = _
      rw [Nat.sub_self]
      rfl
    show (match (dm s ++ (pre ls ++ [Cell.lst (ns.map .int)]))[2 + ls.length]? with
      | some (.lst ds) => Sm.R.ok (D.lst ds, (dm s ++ (pre ls ++ [Cell.lst (ns.map .int)])).set (2 + ls.length) (.frz (.lst ds)))
      | some (.frz d) => .ok (d, dm s ++ (pre ls ++ [Cell.lst (ns.map .int)]))
      | _ => .bad) = _
    rw [hget]
    show Sm.R.ok (D.lst (ns.map D.int), (dm s ++ (pre ls ++ [Cell.lst (ns.map .int)])).set (2 + ls.length) (.frz (.lst (ns.map .int)))) = _
    have hset : (dm s ++ (pre ls ++ [Cell.lst (ns.map .int)])).set (2 + ls.length) (.frz (.lst (ns.map .int))) = dm s ++ (pre ls ++ [Cell.frz (.lst (ns.map .int))]) := by
      rw [← List.append_assoc, List.set_append_right _ _ (by rw [List.length_append, hpl]; exact Nat.le_refl _), List.length_append, hpl, ← List.append_assoc]
      congr 1
      show [Cell.lst (ns.map D.int)].set (2 + ls.length - (2 + ls.length)) _ = _
      rw [Nat.sub_self]
      rfl
    rw [hset]
  have hseq := seq_of hv hfz
  have c := nz_comp (ns := ns) (v := 6) (env := wipeE env [6]) (m := dm s ++ (pre ls ++ [Cell.frz (.lst (ns.map .int))])) (fun x => h6 x _)
  have hin : fBin (gEq false) (fComp false (fSeq (fVar 3)) (bName 6) (fTest (fBin (gEq true) (fVar 6) (fC (.int 0)))) (fVar 6) [6]) (fLst false fNil) env (dm s ++ (pre ls ++ [Cell.lst (ns.map .int)])) = .ok (.bl (nzf ns).isEmpty, dm s ++ (pre ls ++ [Cell.frz (.lst (ns.map .int))])) := by
    rw [fBin_eq, fComp_eq, hseq]
    simp only [List.length_map, sizeLine_num]
    rw [if_pos (show ns.length ≤ 16777216 by omega), c]
    have hl0 : fLst false fNil env (dm s ++ (pre ls ++ [Cell.frz (.lst (ns.map .int))])) = .ok (.lst [], dm s ++ (pre ls ++ [Cell.frz (.lst (ns.map .int))])) := by simp
    simp only [mkL_f, hl0, gEq_nil, Bool.false_eq_true, if_false]
  unfold fKeepT
  rw [tst_ok hin]
  have f0 : ∀ l : List (List Int), (pre l).all isLst = true := fun l => by unfold pre; simp [isLst]
  have f1 : ∀ l : List (List Int), (pre l).all flatC = true := fun l => by unfold pre; simp [flatC, flatD]
  have f2 : ∀ l : List (List Int), (pre l).map thawC = pre l := fun l => by unfold pre; simp [thawC]
  have c1 : (dm s ++ (pre ls ++ [Cell.frz (.lst (ns.map .int))])).length = (dm s ++ (pre ls ++ [Cell.lst (ns.map .int)])).length := by simp
  have c2 : (dm s ++ (pre ls ++ [Cell.lst (ns.map .int)])).all isLst = true := by
    rw [List.all_append, List.all_append, f0]
    rfl
  have c3 : (dm s ++ (pre ls ++ [Cell.frz (.lst (ns.map .int))])).all flatC = true := by
    rw [List.all_append, List.all_append, f1]
    show (((s.cs.map D.int).all flatD && ([D.loc 0, .int s.mix].all flatD && true)) && (true && ((ns.map D.int).all flatD && true))) = true
    rw [flat_ints, flat_ints]
    rfl
  have c4 : (dm s ++ (pre ls ++ [Cell.frz (.lst (ns.map .int))])).map thawC = dm s ++ (pre ls ++ [Cell.lst (ns.map .int)]) := by
    rw [List.map_append, List.map_append, f2]
    rfl
  simp only [c1, c2, c3, c4, and_self, if_true]
end K60


set_option Elab.async false
set_option linter.all false
set_option maxRecDepth 100000
set_option maxHeartbeats 1000000
namespace K60
open PySem Sm Lb Nm
theorem pre_len {ls : List (List Int)} : (pre ls).length = ls.length := by unfold pre; rw [List.length_map]
theorem pre_get {s : St} {ls : List (List Int)} {c : Cell} : (dm s ++ (pre ls ++ [c]))[2 + ls.length]? = some c := by
  rw [← List.append_assoc, List.getElem?_append_right (by rw [List.length_append, pre_len]; exact Nat.le_refl _), List.length_append, pre_len]
  show [c][2 + ls.length - (2 + ls.length)]? = _
  rw [Nat.sub_self]
  rfl
theorem pre_set {s : St} {ls : List (List Int)} {c c' : Cell} : (dm s ++ (pre ls ++ [c])).set (2 + ls.length) c' = dm s ++ (pre ls ++ [c']) := by
  rw [← List.append_assoc, List.set_append_right _ _ (by rw [List.length_append, pre_len]; exact Nat.le_refl _), List.length_append, pre_len, ← List.append_assoc]
  congr 1
  show [c].set (2 + ls.length - (2 + ls.length)) _ = _
  rw [Nat.sub_self]
  rfl
theorem row_live {s : St} {ls : List (List Int)} {ds : List D} : live (dm s ++ (pre ls ++ [.lst ds])) (.loc (2 + ls.length)) = some (2 + ls.length, ds) := by
  show (match (dm s ++ (pre ls ++ [Cell.lst ds]))[2 + ls.length]? with
    | some (.lst ds) => some (2 + ls.length, ds)
    | _ => none) = _
  rw [pre_get]
theorem row_seq {s : St} {ls : List (List Int)} {ds : List D} : seqR (dm s ++ (pre ls ++ [.lst ds])) (.loc (2 + ls.length)) = some ds := by
  show (match (dm s ++ (pre ls ++ [Cell.lst ds]))[2 + ls.length]? with
    | some (.lst ds) => some ds
    | some (.frz (.lst ds)) => some ds
    | _ => none) = _
  rw [pre_get]
theorem tuple_loc {s : St} {ls : List (List Int)} {ds : List D} : gTuple [.loc (2 + ls.length)] (dm s ++ (pre ls ++ [.lst ds])) = .ok (.tup ds, dm s ++ (pre ls ++ [.lst ds])) := by
  unfold gTuple
  simp only [row_seq]
theorem len_loc {s : St} {ls : List (List Int)} {ds : List D} : gLen [.loc (2 + ls.length)] (dm s ++ (pre ls ++ [.lst ds])) = .ok (.int ds.length, dm s ++ (pre ls ++ [.lst ds])) := by
  unfold gLen
  simp only [row_seq]
theorem ix_loc {s : St} {ls : List (List Int)} {ds : List D} {i : Int} {d : D} (h : L2.atI ds i = some d) : gIx (.loc (2 + ls.length)) (.int i) (dm s ++ (pre ls ++ [.lst ds])) = .ok (d, dm s ++ (pre ls ++ [.lst ds])) := by
  unfold gIx
  simp only [row_seq, h]
theorem any_call {s s' : St} {b r : Int} {e1 : Sm.Env} {fb : FE} {rest : Mem} (hf : fb (some (.loc 1) :: e1) (dm s ++ rest) = .ok (.int b, dm s ++ rest)) (h : Run f__law_any [.loc 1, .int b] s (.int r) s') : fCall f__law_any 2 (fCons (fVar 0) (fCons fb fNil)) (some (.loc 1) :: e1) (dm s ++ rest) = .ok (.int r, dm s' ++ rest) :=
  call_ok (cons_ok rfl (cons_ok hf nil_ok)) rfl (h rest)
def dTail : FS := (fThen (fIfS (fKeepT (fTest (fBin (gEq false) (fComp false (fSeq (fVar 3)) (bName 6) (fTest (fBin (gEq true) (fVar 6) (fC (.int 0)))) (fVar 6) [6]) (fLst false fNil)))) (fSetIxR (fVar 3) (fCall f__law_any 2 (fCons (fVar 0) (fCons (fVar 2) fNil))) (fC (.int 1))) fNext)
    (fRet (fBl gTuple (fCons (fVar 3) fNil))))
theorem dTail_ok {p : Nat} (hp5 : 5 ≤ p) {s : St} (g : Good s) {ls : List (List Int)} {ns : List Int} (hl : ns.length = 4) (hns : ∀ x, x ∈ ns → Res p x) {x4 x5 : Option D} : ∃ (ns' : List Int) (s' : St) (env : Sm.Env), ns'.length = 4 ∧ (∀ x, x ∈ ns' → Res p x) ∧ Good s' ∧ dTail [some (.loc 1), some (.int p), some (.int 4), some (.loc (2 + ls.length)), x4, x5, none] (dm s ++ (pre ls ++ [.lst (ns.map .int)])) = .ok (.rt (.tup (ns'.map .int)), env, dm s' ++ (pre ls ++ [.lst (ns'.map .int)])) := by
  have k := keep_ok (x3 := .non) (fo := 0) (s := s) (ls := ls) (ns := ns) (env := [some (.loc 1), some (.int p), some (.int 4), some (.loc (2 + ls.length)), x4, x5, none]) rfl (by omega) (fun x M => rfl)
  by_cases he : (nzf ns).isEmpty = true
  · rw [he] at k
    obtain ⟨r, s', r0, r1, g', e⟩ := any_ok g (b := 4) (by decide) (by decide)
    obtain ⟨j, rfl⟩ : ∃ j : Nat, r = j := ⟨r.toNat, by omega⟩
    have st := setix_ok2 (fo := fVar 3) (fe := fC (.int 1)) (v := 1) (m := dm s ++ (pre ls ++ [.lst (ns.map .int)])) (env := [some (.loc 1), some (.int p), some (.int 4), some (.loc (2 + ls.length)), x4, x5, none]) rfl (n := 2 + ls.length) rfl (any_call (s := s) (fb := fVar 2) rfl e) row_live (k := j) (by rw [List.length_map, hl]; exact ixN_nat (by omega))
    rw [pre_set, map_set_int] at st
    exact ⟨ns.set j 1, s', _, by simp [hl], mem_set_res hns ⟨by decide, by omega⟩, g', thn_nx (ifs_t k st) (ret_ok (bl_ok (cons_ok rfl nil_ok) tuple_loc))⟩
  · have he' : (nzf ns).isEmpty = false := by simpa using he
    rw [he'] at k
    exact ⟨ns, s, _, hl, hns, g, thn_nx (ifs_f k rfl) (ret_ok (bl_ok (cons_ok rfl nil_ok) tuple_loc))⟩
theorem res_fits {p : Nat} (hb : p < 2 ^ 61) {a b : Int} (ha : Res p a) (hb' : Res p b) : mulFits a b = true :=
  mulFits_of 61 61 (abs_lt hb (by have := ha.1; omega) (by have := ha.2; omega)) (abs_lt hb (by have := hb'.1; omega) (by have := hb'.2; omega)) (by decide)
theorem difference_ok {p : Nat} (hb : p < 2 ^ 61) (hp5 : 5 ≤ p) {s : St} (g : Good s) : ∃ (ns : List Int) (s' : St), ns.length = 4 ∧ (∀ x, x ∈ ns → Res p x) ∧ Good s' ∧ Run f__law_difference [.loc 1, .int p, .int 4] s (.tup (ns.map .int)) s' := by
  have hp0 : 0 < p := by omega
  obtain ⟨r, s1, r0, r1, g1, e1⟩ := any_ok g (b := 3) (by decide) (by decide)
  have hA1 : fNot (fTest (fCall f__law_countable 2 (fCons (fVar 1) (fCons (fVar 2) fNil)))) [some (.loc 1), some (.int p), some (.int 4), none, none, none, none] (dm s) = .ok (false, dm s) := not_ok (b := true) (tst_ok (call_ok (cons_ok rfl (cons_ok rfl nil_ok)) rfl (countable4 _)))
  have hc1 : fCall f__law_any 2 (fCons (fVar 0) (fCons (fC (.int 3)) fNil)) [some (.loc 1), some (.int p), some (.int 4), none, none, none, none] (dm s) = .ok (.int r, dm s1) := call_ok (cons_ok rfl (cons_ok rfl nil_ok)) rfl e1.z
  by_cases hr : r = 0
  · obtain ⟨ns, s2, hl, hns, _, g2, e2⟩ := one_alone_ok hb hp5 g1 (n := 4) (by decide) (by decide)
    refine ⟨ns, s2, hl, hns, g2, deal_run0 (ex := []) (by simp) (env := [some (.loc 1), some (.int p), some (.int 4), none, none, none, none]) ?_ (by simp)⟩
    rw [List.append_nil]
    exact thn_rt (ifs_t (or_f hA1 (tst_ok (bin_ok hc1 rfl (eq_t hr)))) (ret_ok (call_ok (cons_ok rfl (cons_ok rfl (cons_ok rfl nil_ok))) rfl e2.z)))
  · obtain ⟨l1, s2, hl1, hn1, g2, e2⟩ := residues_ok hb hp5 g1 (n := 4) (by decide)
    obtain ⟨u, s3, u0, u1, g3, e3⟩ := any_ok g2 (b := 2) (by decide) (by decide)
    have hB1 : fTest (fBin (gEq false) (fCall f__law_any 2 (fCons (fVar 0) (fCons (fC (.int 3)) fNil))) (fC (.int 0))) [some (.loc 1), some (.int p), some (.int 4), none, none, none, none] (dm s) = .ok (false, dm s1) := tst_ok (bin_ok hc1 rfl (eq_f hr))
    have stA := ifs_f (f := fRet (fCall f__law_one_alone 3 (fCons (fVar 0) (fCons (fVar 1) (fCons (fVar 2) fNil))))) (g := fNext) (or_f hA1 hB1) rfl
    have stB : fAsg 3 (fBl (gList true) (fCons (fCall f__law_residues 3 (fCons (fVar 0) (fCons (fVar 1) (fCons (fVar 2) fNil)))) fNil)) [some (.loc 1), some (.int p), some (.int 4), none, none, none, none] (dm s1) = .ok (.nx, [some (.loc 1), some (.int p), some (.int 4), some (.loc 2), none, none, none], dm s2 ++ [.lst (l1.map .int)]) := asg_ok (bl_ok (cons_ok (call_ok (cons_ok rfl (cons_ok rfl (cons_ok rfl nil_ok))) rfl e2.z) nil_ok) rfl)
    have hC1 : fTest (fBin (gEq false) (fVar 2) (fC (.int 4))) [some (.loc 1), some (.int p), some (.int 4), some (.loc 2), none, none, none] (dm s2 ++ [.lst (l1.map .int)]) = .ok (true, dm s2 ++ [.lst (l1.map .int)]) := tst_ok (bin_ok rfl rfl (eq_t rfl))
    have hc3 : fCall f__law_any 2 (fCons (fVar 0) (fCons (fC (.int 2)) fNil)) [some (.loc 1), some (.int p), some (.int 4), some (.loc 2), none, none, none] (dm s2 ++ [.lst (l1.map .int)]) = .ok (.int u, dm s3 ++ [.lst (l1.map .int)]) := any_call rfl e3
    by_cases hu : u = 0
    · obtain ⟨la, s4, hla, hna, g4, e4⟩ := residues_ok hb hp5 g3 (n := 2) (by decide)
      obtain ⟨lb, s5, hlb, hnb, g5, e5⟩ := residues_ok hb hp5 g4 (n := 2) (by decide)
      match la, hla, lb, hlb with
      | [a0, a1], _, [b0, b1], _ =>
        have ra0 := hna a0 (by simp)
        have ra1 := hna a1 (by simp)
        have rb0 := hnb b0 (by simp)
        have rb1 := hnb b1 (by simp)
        obtain ⟨ns', s6, env6, h1, h2, h3, h4⟩ := dTail_ok (p := p) hp5 g5 (ls := [l1]) (ns := [a0 * b0 % p, a0 * b1 % p, a1 * b0 % p, a1 * b1 % p]) rfl (by
          intro x hx
          simp only [List.mem_cons, List.not_mem_nil, or_false] at hx
          rcases hx with rfl | rfl | rfl | rfl <;> exact Res.mod hp0 _) (x4 := some (.tup [.int a0, .int a1])) (x5 := some (.tup [.int b0, .int b1]))
        refine ⟨ns', s6, h1, h2, h3, deal_run0 (ex := pre [l1] ++ [.lst (ns'.map .int)]) (by simp) ?_ (by simp) (env := env6)⟩
        have el : ∀ {i j : Int} {x y : Int}, L2.atI [D.int a0, D.int a1] i = some (.int x) → L2.atI [D.int b0, D.int b1] j = some (.int y) → Res p x → Res p y → ∀ M, fBin gMod (fBl gInt (fCons (fBin (gMul false) (fBin gIx (fVar 4) (fC (.int i))) (fBin gIx (fVar 5) (fC (.int j)))) fNil)) (fVar 1) [some (.loc 1), some (.int p), some (.int 4), some (.loc 2), some (.tup [.int a0, .int a1]), some (.tup [.int b0, .int b1]), none] M = .ok (.int (x * y % p), M) := fun h1 h2 hx hy M =>
          bin_ok (bl_ok (cons_ok (bin_ok (bin_ok rfl rfl (ix_tup h1)) (bin_ok rfl rfl (ix_tup h2)) (mul_ok (res_fits hb hx hy))) nil_ok) gInt_int) rfl (mod_ok (by omega))
        have hB3 : fTest (fBin (gEq false) (fCall f__law_any 2 (fCons (fVar 0) (fCons (fC (.int 2)) fNil))) (fC (.int 0))) [some (.loc 1), some (.int p), some (.int 4), some (.loc 2), none, none, none] (dm s2 ++ [.lst (l1.map .int)]) = .ok (true, dm s3 ++ [.lst (l1.map .int)]) := tst_ok (bin_ok hc3 rfl (eq_t hu))
        have stC := ifs_t (g := fNext) (and_t hC1 hB3) (thn_nx (par_ok (i := 4) (j := 5) (cons_ok (call_ok (fr := fCons (fVar 0) (fCons (fVar 1) (fCons (fC (.int 2)) fNil))) (n := 3) (cons_ok rfl (cons_ok rfl (cons_ok rfl nil_ok))) rfl (e4 _)) (cons_ok (call_ok (fr := fCons (fVar 0) (fCons (fVar 1) (fCons (fC (.int 2)) fNil))) (n := 3) (cons_ok rfl (cons_ok rfl (cons_ok rfl nil_ok))) rfl (e5 _)) nil_ok))) (asg_ok (i := 3) (lst_ok (c := true) (cons_ok (el atI_0 atI_0 ra0 rb0 _) (cons_ok (el atI_0 atI_1 ra0 rb1 _) (cons_ok (el atI_1 atI_0 ra1 rb0 _) (cons_ok (el atI_1 atI_1 ra1 rb1 _) nil_ok)))) rfl (by simp))))
        exact thn_nx stA (thn_nx stB (thn_nx stC h4))
    · obtain ⟨ns', s6, env6, h1, h2, h3, h4⟩ := dTail_ok (p := p) hp5 g3 (ls := []) (ns := l1) hl1 hn1 (x4 := none) (x5 := none)
      refine ⟨ns', s6, h1, h2, h3, deal_run0 (ex := pre [] ++ [.lst (ns'.map .int)]) (by simp) ?_ (by simp) (env := env6)⟩
      exact thn_nx stA (thn_nx stB (thn_nx (ifs_f (and_t hC1 (tst_ok (bin_ok hc3 rfl (eq_f hu)))) rfl) h4))
end K60


set_option Elab.async false
set_option linter.all false
set_option maxRecDepth 100000
set_option maxHeartbeats 1000000
namespace K60
open PySem Sm Lb Nm
/-- a row and what is said of it -/
structure RowIs (p k : Nat) (ns : List Int) : Prop where
  small : k ≤ 12
  len : ns.length = 2 ^ k
  res : ∀ x, x ∈ ns → Res p x
  few : 2 ≤ (nzf ns).length → 2 < k → p ^ k ≤ 100000
theorem RowIs.of2 {p k : Nat} {ns : List Int} (hk : k ≤ 2) (hl : ns.length = 2 ^ k) (hr : ∀ x, x ∈ ns → Res p x) : RowIs p k ns := ⟨by omega, hl, hr, fun _ h => by omega⟩
theorem RowIs.of1 {p k : Nat} {ns : List Int} (hk : k ≤ 12) (hl : ns.length = 2 ^ k) (hr : ∀ x, x ∈ ns → Res p x) (h : (nzf ns).length ≤ 1) : RowIs p k ns := ⟨hk, hl, hr, fun _ _ => by omega⟩
theorem mem4 {p : Nat} {a b c d : Int} (ha : Res p a) (hb : Res p b) (hc : Res p c) (hd : Res p d) : ∀ x, x ∈ [a, b, c, d] → Res p x := fun x hx => by
  simp only [List.mem_cons, List.not_mem_nil, or_false] at hx
  rcases hx with rfl | rfl | rfl | rfl <;> assumption
theorem mem2 {p : Nat} {a b : Int} (ha : Res p a) (hb : Res p b) : ∀ x, x ∈ [a, b] → Res p x := fun x hx => by
  simp only [List.mem_cons, List.not_mem_nil, or_false] at hx
  rcases hx with rfl | rfl <;> assumption
theorem row_counted_ok {p : Nat} (hb : p < 2 ^ 61) (hp5 : 5 ≤ p) {s : St} (g : Good s) : ∃ (k : Nat) (ns : List Int) (s' : St), RowIs p k ns ∧ Good s' ∧ Run f__law_row_counted [.loc 1, .int p] s (.tup (ns.map .int)) s' := by
  have hp0 : 0 < p := by omega
  have hp0' : (0 : Int) < p := by omega
  obtain ⟨kk, s1, k0, k1, g1, e1⟩ := any_ok g (b := 6) (by decide) (by decide)
  have stA : fAsg 2 (fCall f__law_any 2 (fCons (fVar 0) (fCons (fC (.int 6)) fNil))) [some (.loc 1), some (.int p), none, none, none, none, none, none] (dm s) = .ok (.nx, [some (.loc 1), some (.int p), some (.int kk), none, none, none, none, none], dm s1) := asg_ok (call_ok (cons_ok rfl (cons_ok rfl nil_ok)) rfl e1.z)
  have hq : ∀ (i : Int) (c : Bool), decide (kk = i) = c → fTest (fBin (gEq false) (fVar 2) (fC (.int i))) [some (.loc 1), some (.int p), some (.int kk), none, none, none, none, none] (dm s1) = .ok (c, dm s1) := fun i c h => by
    by_cases hh : kk = i
    · rw [decide_eq_true hh] at h; subst h; exact tst_ok (bin_ok rfl rfl (eq_t hh))
    · rw [decide_eq_false hh] at h; subst h; exact tst_ok (bin_ok rfl rfl (eq_f hh))
  by_cases h0 : kk = 0
  · obtain ⟨i, s2, i0, i1, g2, e2⟩ := any_ok g1 (b := 11) (by decide) (by decide)
    obtain ⟨j, rfl⟩ : ∃ j : Nat, i = j := ⟨i.toNat, by omega⟩
    obtain ⟨u, s3, u0, u1, g3, e3⟩ := any_ok g2 (b := 4) (by decide) (by decide)
    have hjs : 2 ^ j ≤ 2 ^ 10 := Nat.pow_le_pow_right (by decide) (by omega)
    have hj1 : 1 ≤ 2 ^ j := Nat.one_le_two_pow
    have stB : fAsg 3 (fCall f__law_twos 1 (fCons (fCall f__law_any 2 (fCons (fVar 0) (fCons (fC (.int 11)) fNil))) fNil)) [some (.loc 1), some (.int p), some (.int kk), none, none, none, none, none] (dm s1) = .ok (.nx, [some (.loc 1), some (.int p), some (.int kk), some (.int ((2 ^ j : Nat) : Int)), none, none, none, none], dm s2) := asg_ok (call_ok (cons_ok (call_ok (cons_ok rfl (cons_ok rfl nil_ok)) rfl e2.z) nil_ok) rfl (twos_ok j (by omega) _))
    have hc : fCall f__law_any 2 (fCons (fVar 0) (fCons (fC (.int 4)) fNil)) [some (.loc 1), some (.int p), some (.int kk), some (.int ((2 ^ j : Nat) : Int)), none, none, none, none] (dm s2) = .ok (.int u, dm s3) := call_ok (cons_ok rfl (cons_ok rfl nil_ok)) rfl e3.z
    by_cases hu : 0 < u
    · obtain ⟨ns, s4, hl, hns, hz, g4, e4⟩ := one_alone_ok hb hp5 g3 (n := 2 ^ j) hj1 (by omega)
      refine ⟨j, ns, s4, .of1 (by omega) hl hns hz, g4, deal_run0 (ex := []) (by simp) ?_ (by simp) (env := [some (.loc 1), some (.int p), some (.int kk), some (.int ((2 ^ j : Nat) : Int)), none, none, none, none])⟩
      rw [List.append_nil]
      have ht : fTest (fBin (gCmp fun i j => decide (j < i)) (fCall f__law_any 2 (fCons (fVar 0) (fCons (fC (.int 4)) fNil))) (fC (.int 0))) [some (.loc 1), some (.int p), some (.int kk), some (.int ((2 ^ j : Nat) : Int)), none, none, none, none] (dm s2) = .ok (true, dm s3) := tst_ok (bin_ok hc rfl (by rw [gCmp_int, decide_eq_true hu]))
      exact thn_nx stA (thn_rt (ifs_t (hq 0 true (decide_eq_true h0)) (thn_nx stB (ret_ok (if_t ht (call_ok (cons_ok rfl (cons_ok rfl (cons_ok rfl nil_ok))) rfl e4.z))))))
    · have rr : rangeD 0 ((2 ^ j : Nat) : Int) = (List.range (2 ^ j)).map fun (i : Nat) => D.int (i : Int) := range_map (2 ^ j)
      have hlen : (rangeD 0 ((2 ^ j : Nat) : Int)).length = 2 ^ j := by rw [rr]; simp
      have c := compL_map (b := bName 7) (t := fYes) (fe := fC (.int 0)) (env := [some (.loc 1), some (.int p), some (.int kk), some (.int ((2 ^ j : Nat) : Int)), none, none, none, none]) (m := dm s3) (fun (i : Nat) => D.int (i : Int)) (fun _ => true) (fun _ => D.int 0) (List.range (2 ^ j)) (fun x _ => ⟨_, rfl, rfl, fun _ => ⟨rfl, rfl⟩⟩)
      rw [List.filter_eq_self.mpr (fun _ _ => rfl), ← rr] at c
      have hz : (List.range (2 ^ j)).map (fun _ => D.int 0) = (List.replicate (2 ^ j) (0 : Int)).map D.int := by
        rw [List.map_const', List.map_replicate, List.length_range]
      rw [hz] at c
      have hcomp := comp_ok (c := false) (vs := [7]) (env := [some (.loc 1), some (.int p), some (.int kk), some (.int ((2 ^ j : Nat) : Int)), none, none, none, none]) (fi := fRng1 (fCons (fVar 3) fNil)) (rng_ok (cons_ok rfl nil_ok) (rngFits_nat (show 2 ^ j ≤ 1000000000 by omega))) (by rw [hlen]; omega) c
      rw [mkL_f] at hcomp
      refine ⟨j, List.replicate (2 ^ j) 0, s3, .of1 (by omega) (by simp) (fun x hx => by rw [(List.mem_replicate.mp hx).2]; exact ⟨by decide, hp0'⟩) (by rw [nzf_rep]; decide), g3, deal_run0 (ex := []) (by simp) ?_ (by rw [below_tup]; exact belows_ints) (env := [some (.loc 1), some (.int p), some (.int kk), some (.int ((2 ^ j : Nat) : Int)), none, none, none, none])⟩
      rw [List.append_nil]
      have ht : fTest (fBin (gCmp fun i j => decide (j < i)) (fCall f__law_any 2 (fCons (fVar 0) (fCons (fC (.int 4)) fNil))) (fC (.int 0))) [some (.loc 1), some (.int p), some (.int kk), some (.int ((2 ^ j : Nat) : Int)), none, none, none, none] (dm s2) = .ok (false, dm s3) := tst_ok (bin_ok hc rfl (by rw [gCmp_int, decide_eq_false hu]))
      exact thn_nx stA (thn_rt (ifs_t (hq 0 true (decide_eq_true h0)) (thn_nx stB (ret_ok (if_f ht (bl_ok (cons_ok hcomp nil_ok) gTuple_lst))))))
  · have s0 := ifs_f (f := (fThen (fAsg 3 (fCall f__law_twos 1 (fCons (fCall f__law_any 2 (fCons (fVar 0) (fCons (fC (.int 11)) fNil))) fNil)))
    (fRet (fIf (fTest (fBin (gCmp fun i j => decide (j < i)) (fCall f__law_any 2 (fCons (fVar 0) (fCons (fC (.int 4)) fNil))) (fC (.int 0)))) (fCall f__law_one_alone 3 (fCons (fVar 0) (fCons (fVar 1) (fCons (fVar 3) fNil)))) (fBl gTuple (fCons (fComp false (fRng1 (fCons (fVar 3) fNil)) (bName 7) fYes (fC (.int 0)) [7]) fNil)))))) (g := fNext) (hq 0 false (decide_eq_false h0)) rfl
    by_cases h1 : kk = 1
    · obtain ⟨l, s2, hl, hn, g2, e2⟩ := residues_ok hb hp5 g1 (n := 3) (by decide)
      match l, hl with
      | [c, a, b], _ =>
        refine ⟨2, [c, (c + a) % p, (c + b) % p, (c + a + b) % p], s2, .of2 (by decide) rfl (mem4 (hn c (by simp)) (Res.mod hp0 _) (Res.mod hp0 _) (Res.mod hp0 _)), g2, deal_run0 (ex := []) (by simp) ?_ (by simp) (env := [some (.loc 1), some (.int p), some (.int kk), none, some (.int c), some (.int a), some (.int b), none])⟩
        rw [List.append_nil]
        have stU : fUnp (bTup 3 (bCons (bName 4) (bCons (bName 5) (bCons (bName 6) bNil)))) (fCall f__law_residues 3 (fCons (fVar 0) (fCons (fVar 1) (fCons (fC (.int 3)) fNil)))) [some (.loc 1), some (.int p), some (.int kk), none, none, none, none, none] (dm s1) = .ok (.nx, [some (.loc 1), some (.int p), some (.int kk), none, some (.int c), some (.int a), some (.int b), none], dm s2) := unp_ok (call_ok (cons_ok rfl (cons_ok rfl (cons_ok rfl nil_ok))) rfl e2.z) rfl
        exact thn_nx stA (thn_nx s0 (thn_rt (ifs_t (hq 1 true (decide_eq_true h1)) (thn_nx stU (ret_ok (tup_ok (cons_ok rfl (cons_ok (bin_ok (bl_ok (cons_ok (bin_ok rfl rfl gAdd_int) nil_ok) gInt_int) rfl (mod_ok hp0')) (cons_ok (bin_ok (bl_ok (cons_ok (bin_ok rfl rfl gAdd_int) nil_ok) gInt_int) rfl (mod_ok hp0')) (cons_ok (bin_ok (bl_ok (cons_ok (bin_ok (bin_ok rfl rfl gAdd_int) rfl gAdd_int) nil_ok) gInt_int) rfl (mod_ok hp0')) nil_ok)))) rfl (by simp)))))))
    · have s1' := ifs_f (f := (fThen (fUnp (bTup 3 (bCons (bName 4) (bCons (bName 5) (bCons (bName 6) bNil)))) (fCall f__law_residues 3 (fCons (fVar 0) (fCons (fVar 1) (fCons (fC (.int 3)) fNil)))))
    (fRet (fTup (fCons (fVar 4) (fCons (fBin gMod (fBl gInt (fCons (fBin (gAdd false) (fVar 4) (fVar 5)) fNil)) (fVar 1)) (fCons (fBin gMod (fBl gInt (fCons (fBin (gAdd false) (fVar 4) (fVar 6)) fNil)) (fVar 1)) (fCons (fBin gMod (fBl gInt (fCons (fBin (gAdd false) (fBin (gAdd false) (fVar 4) (fVar 5)) (fVar 6)) fNil)) (fVar 1)) fNil)))))))) (g := fNext) (hq 1 false (decide_eq_false h1)) rfl
      by_cases h2 : kk = 2
      · obtain ⟨l, s2, hl, hn, g2, e2⟩ := residues_ok hb hp5 g1 (n := 2) (by decide)
        match l, hl with
        | [c, a], _ =>
          have rc := hn c (by simp)
          have ra := hn a (by simp)
          obtain ⟨d, s3, hd, g3, e3⟩ := of_ok g2 (opts := [.tup [.int c], .tup [.int c, .int a], .tup [.int c, .int c], .tup [.int c, .int a, .int c, .int a], .tup [.int c, .int c, .int a, .int a], .tup [.int c, .int c, .int c, .int c], .tup [.int c, .int a, .int a, .int c]]) (by simp) (by simp) (by simp)
          have stU : fUnp (bTup 2 (bCons (bName 4) (bCons (bName 6) bNil))) (fCall f__law_residues 3 (fCons (fVar 0) (fCons (fVar 1) (fCons (fC (.int 2)) fNil)))) [some (.loc 1), some (.int p), some (.int kk), none, none, none, none, none] (dm s1) = .ok (.nx, [some (.loc 1), some (.int p), some (.int kk), none, some (.int c), none, some (.int a), none], dm s2) := unp_ok (call_ok (cons_ok rfl (cons_ok rfl (cons_ok rfl nil_ok))) rfl e2.z) rfl
          have hL : fLst false (fCons (fTup (fCons (fVar 4) fNil)) (fCons (fTup (fCons (fVar 4) (fCons (fVar 6) fNil))) (fCons (fTup (fCons (fVar 4) (fCons (fVar 4) fNil))) (fCons (fTup (fCons (fVar 4) (fCons (fVar 6) (fCons (fVar 4) (fCons (fVar 6) fNil))))) (fCons (fTup (fCons (fVar 4) (fCons (fVar 4) (fCons (fVar 6) (fCons (fVar 6) fNil))))) (fCons (fTup (fCons (fVar 4) (fCons (fVar 4) (fCons (fVar 4) (fCons (fVar 4) fNil))))) (fCons (fTup (fCons (fVar 4) (fCons (fVar 6) (fCons (fVar 6) (fCons (fVar 4) fNil))))) fNil))))))) [some (.loc 1), some (.int p), some (.int kk), none, some (.int c), none, some (.int a), none] (dm s2) = .ok (.lst [.tup [.int c], .tup [.int c, .int a], .tup [.int c, .int c], .tup [.int c, .int a, .int c, .int a], .tup [.int c, .int c, .int a, .int a], .tup [.int c, .int c, .int c, .int c], .tup [.int c, .int a, .int a, .int c]], dm s2) := by simp
          have body : ∀ (k : Nat) (ns : List Int), RowIs p k ns → d = .tup (ns.map .int) → ∃ (k : Nat) (ns : List Int) (s' : St), RowIs p k ns ∧ Good s' ∧ Run f__law_row_counted [.loc 1, .int p] s (.tup (ns.map .int)) s' := fun k ns hr hdd => by
            subst hdd
            refine ⟨k, ns, s3, hr, g3, deal_run0 (ex := []) (by simp) ?_ (by simp) (env := [some (.loc 1), some (.int p), some (.int kk), none, some (.int c), none, some (.int a), none])⟩
            rw [List.append_nil]
            exact thn_nx stA (thn_nx s0 (thn_nx s1' (thn_rt (ifs_t (hq 2 true (decide_eq_true h2)) (thn_nx stU (ret_ok (call_ok (cons_ok rfl (cons_ok hL nil_ok)) rfl e3.z)))))))
          simp only [List.mem_cons, List.not_mem_nil, or_false] at hd
          rcases hd with h | h | h | h | h | h | h
          · exact body 0 [c] (.of2 (by decide) rfl (fun x hx => by rw [List.mem_singleton.mp hx]; exact rc)) h
          · exact body 1 [c, a] (.of2 (by decide) rfl (mem2 rc ra)) h
          · exact body 1 [c, c] (.of2 (by decide) rfl (mem2 rc rc)) h
          · exact body 2 [c, a, c, a] (.of2 (by decide) rfl (mem4 rc ra rc ra)) h
          · exact body 2 [c, c, a, a] (.of2 (by decide) rfl (mem4 rc rc ra ra)) h
          · exact body 2 [c, c, c, c] (.of2 (by decide) rfl (mem4 rc rc rc rc)) h
          · exact body 2 [c, a, a, c] (.of2 (by decide) rfl (mem4 rc ra ra rc)) h
      · obtain ⟨ns, s2, hl, hn, g2, e2⟩ := difference_ok hb hp5 g1
        refine ⟨2, ns, s2, .of2 (by decide) hl hn, g2, deal_run0 (ex := []) (by simp) ?_ (by simp) (env := [some (.loc 1), some (.int p), some (.int kk), none, none, none, none, none])⟩
        rw [List.append_nil]
        exact thn_nx stA (thn_nx s0 (thn_nx s1' (thn_nx (ifs_f (hq 2 false (decide_eq_false h2)) rfl) (ret_ok (call_ok (cons_ok rfl (cons_ok rfl (cons_ok rfl nil_ok))) rfl e2.z)))))
end K60


set_option Elab.async false
set_option linter.all false
set_option maxRecDepth 100000
set_option maxHeartbeats 1000000
namespace K60
open PySem Sm Lb Nm
def fewL : List (Nat × Nat) := [(5, 5), (5, 4), (7, 4), (7, 3), (11, 3), (13, 3), (17, 3)]
theorem few_ok : ∀ q, q ∈ fewL → q.1 ∈ primes ∧ q.1 ^ q.2 ≤ 100000 ∧ 1 ≤ q.2 ∧ q.2 ≤ 12 := by decide +kernel
def fewT : FE := fIf (fTest (fBin (gEq false) (fCall f__law_any 2 (fCons (fVar 0) (fCons (fC (.int 3)) fNil))) (fC (.int 0)))) (fBin gMod (fBl gInt (fCons (fBin gIx (fVar 3) (fVar 5)) fNil)) (fVar 1)) (fC (.int 0))
theorem at_res {p : Nat} {ns : List Int} (hns : ∀ x, x ∈ ns → Res p x) (hp0 : 0 < p) {i : Nat} (h : i < ns.length) : ∃ v, L2.atI (ns.map D.int) (i : Int) = some (.int v) ∧ Res p v := ⟨nth ns i, at_int h, getD_res hns hp0 i⟩
/-- what the loops keep -/
def FewI (p L : Nat) (k kind : Int) (env : Sm.Env) (m : Mem) : Prop := ∃ (s : St) (ns : List Int) (x5 : Option D), Good s ∧ ns.length = L ∧ (∀ x, x ∈ ns → Res p x) ∧ env = [some (.loc 1), some (.int p), some (.int k), some (.loc 2), some (.int kind), x5] ∧ m = dm s ++ (pre [] ++ [Cell.lst (ns.map .int)])
theorem few_loop {p L : Nat} {k kind : Int} {fb : FE} {fi : FE} {n : Nat} {env : Sm.Env} {m : Mem} (h0 : FewI p L k kind env m)
    (h : ∀ (i : Nat) (s : St) (ns : List Int), i < n → Good s → ns.length = L → (∀ x, x ∈ ns → Res p x) → ∃ (v : Int) (j : Nat) (s' : St), Res p v ∧ Good s' ∧ j < L ∧ fb [some (.loc 1), some (.int p), some (.int k), some (.loc 2), some (.int kind), some (.int (i : Int))] (dm s ++ (pre [] ++ [Cell.lst (ns.map .int)])) = .ok (.int v, dm s' ++ (pre [] ++ [Cell.lst (ns.map .int)])) ∧ fi [some (.loc 1), some (.int p), some (.int k), some (.loc 2), some (.int kind), some (.int (i : Int))] (dm s' ++ (pre [] ++ [Cell.lst (ns.map .int)])) = .ok (.int (j : Int), dm s' ++ (pre [] ++ [Cell.lst (ns.map .int)]))) :
    ∃ env' m', forL (bName 5) (fSetIxR (fVar 3) fi fb) (rangeD 0 (n : Int)) env m = .ok (.nx, env', m') ∧ FewI p L k kind env' m' := by
  have rr : rangeD 0 (n : Int) = (List.range n).map fun (i : Nat) => D.int (i : Int) := range_map n
  refine loop_ok (b := bName 5) (body := fSetIxR (fVar 3) fi fb) (ds := rangeD 0 (n : Int)) (env := env) (m := m) (fun _ env m => FewI p L k kind env m) h0 fun i d env m hd hi => ?_
  obtain ⟨s, ns, x5, g, hl, hns, rfl, rfl⟩ := hi
  have hin : i < n := by
    rw [rr] at hd
    have := (List.getElem?_eq_some_iff.mp hd).1
    simpa using this
  rw [rr, List.getElem?_map, range_take hin] at hd
  cases hd
  obtain ⟨v, j, s', hv, g', hj, e1, e2⟩ := h i s ns hin g hl hns
  have st := setix_ok2 (fo := fVar 3) (env := [some (.loc 1), some (.int p), some (.int k), some (.loc 2), some (.int kind), some (.int (i : Int))]) e1 (n := 2) rfl e2 (row_live (ls := [])) (k := j) (by rw [List.length_map, hl]; exact ixN_nat hj)
  have hs := pre_set (s := s') (ls := []) (c := .lst (ns.map .int)) (c' := .lst ((ns.map D.int).set j (.int v)))
  have st' : fSetIxR (fVar 3) fi fb [some (.loc 1), some (.int p), some (.int k), some (.loc 2), some (.int kind), some (.int (i : Int))] (dm s ++ (pre [] ++ [Cell.lst (ns.map .int)])) = .ok (.nx, [some (.loc 1), some (.int p), some (.int k), some (.loc 2), some (.int kind), some (.int (i : Int))], (dm s' ++ (pre [] ++ [Cell.lst (ns.map .int)])).set (2 + ([] : List (List Int)).length) (.lst ((ns.map D.int).set j (.int v)))) := st
  rw [hs, map_set_int] at st'
  exact ⟨_, _, _, rfl, st', s', ns.set j v, some (.int i), g', by simp [hl], mem_set_res hns hv, rfl, rfl⟩
theorem row_of_few_ok {s : St} (g : Good s) : ∃ (p k : Nat) (ns : List Int) (s' : St), p ∈ primes ∧ 1 ≤ k ∧ p ^ k ≤ 100000 ∧ RowIs p k ns ∧ Good s' ∧ Run f__law_row_of_few [.loc 1] s (.tup [.int p, .tup (ns.map .int)]) s' := by
  obtain ⟨d, s1, hd, g1, e1⟩ := of_ok g (opts := fewL.map fun q => D.tup [.int (q.1 : Nat), .int (q.2 : Nat)]) (by simp [fewL]) (by simp [fewL]) (by simp [fewL])
  obtain ⟨⟨p, k⟩, hq, rfl⟩ := List.mem_map.mp hd
  obtain ⟨hp, hsm, hk1, hk12⟩ := few_ok _ hq
  obtain ⟨hp5, hb⟩ := le_all p hp
  have hp0 : 0 < p := by omega
  have hp0' : (0 : Int) < p := by omega
  have hks : 2 ^ k ≤ 2 ^ 12 := Nat.pow_le_pow_right (by decide) hk12
  obtain ⟨ns, s2, hl, hn, g2, e2⟩ := residues_ok hb hp5 g1 (n := 2 ^ k) (by omega)
  obtain ⟨kind, s3, k0, k1, g3, e3⟩ := any_ok g2 (b := 3) (by decide) (by decide)
  have hL : fLst false (fCons (fTup (fCons (fC (.int 5)) (fCons (fC (.int 5)) fNil))) (fCons (fTup (fCons (fC (.int 5)) (fCons (fC (.int 4)) fNil))) (fCons (fTup (fCons (fC (.int 7)) (fCons (fC (.int 4)) fNil))) (fCons (fTup (fCons (fC (.int 7)) (fCons (fC (.int 3)) fNil))) (fCons (fTup (fCons (fC (.int 11)) (fCons (fC (.int 3)) fNil))) (fCons (fTup (fCons (fC (.int 13)) (fCons (fC (.int 3)) fNil))) (fCons (fTup (fCons (fC (.int 17)) (fCons (fC (.int 3)) fNil))) fNil))))))) [some (.loc 1), none, none, none, none, none] (dm s) = .ok (.lst (fewL.map fun q => D.tup [.int (q.1 : Nat), .int (q.2 : Nat)]), dm s) := by simp [fewL]
  have st1 : fUnp (bTup 2 (bCons (bName 1) (bCons (bName 2) bNil))) (fCall f__law_of 2 (fCons (fVar 0) (fCons (fLst false (fCons (fTup (fCons (fC (.int 5)) (fCons (fC (.int 5)) fNil))) (fCons (fTup (fCons (fC (.int 5)) (fCons (fC (.int 4)) fNil))) (fCons (fTup (fCons (fC (.int 7)) (fCons (fC (.int 4)) fNil))) (fCons (fTup (fCons (fC (.int 7)) (fCons (fC (.int 3)) fNil))) (fCons (fTup (fCons (fC (.int 11)) (fCons (fC (.int 3)) fNil))) (fCons (fTup (fCons (fC (.int 13)) (fCons (fC (.int 3)) fNil))) (fCons (fTup (fCons (fC (.int 17)) (fCons (fC (.int 3)) fNil))) fNil)))))))) fNil))) [some (.loc 1), none, none, none, none, none] (dm s) = .ok (.nx, [some (.loc 1), some (.int p), some (.int k), none, none, none], dm s1) := unp_ok (call_ok (cons_ok rfl (cons_ok hL nil_ok)) rfl e1.z) rfl
  have st2 : fAsg 3 (fBl (gList true) (fCons (fCall f__law_residues 3 (fCons (fVar 0) (fCons (fVar 1) (fCons (fCall f__law_twos 1 (fCons (fVar 2) fNil)) fNil)))) fNil)) [some (.loc 1), some (.int p), some (.int k), none, none, none] (dm s1) = .ok (.nx, [some (.loc 1), some (.int p), some (.int k), some (.loc 2), none, none], dm s2 ++ (pre [] ++ [Cell.lst (ns.map .int)])) := asg_ok (bl_ok (cons_ok (call_ok (cons_ok rfl (cons_ok rfl (cons_ok (call_ok (cons_ok rfl nil_ok) rfl (twos_ok k (by omega) _)) nil_ok))) rfl e2.z) nil_ok) rfl)
  have st3 : fAsg 4 (fCall f__law_any 2 (fCons (fVar 0) (fCons (fC (.int 3)) fNil))) [some (.loc 1), some (.int p), some (.int k), some (.loc 2), none, none] (dm s2 ++ (pre [] ++ [Cell.lst (ns.map .int)])) = .ok (.nx, [some (.loc 1), some (.int p), some (.int k), some (.loc 2), some (.int kind), none], dm s3 ++ (pre [] ++ [Cell.lst (ns.map .int)])) := asg_ok (any_call rfl e3)
  have hlen : ∀ (s : St) (ns : List Int) (x5 : Option D), ns.length = 2 ^ k → fBl gLen (fCons (fVar 3) fNil) [some (.loc 1), some (.int p), some (.int k), some (.loc 2), some (.int kind), x5] (dm s ++ (pre [] ++ [Cell.lst (ns.map .int)])) = .ok (.int ((2 ^ k : Nat) : Int), dm s ++ (pre [] ++ [Cell.lst (ns.map .int)])) := fun s ns x5 hl => by
    have := len_loc (s := s) (ls := []) (ds := ns.map .int)
    rw [List.length_map, hl] at this
    exact bl_ok (cons_ok rfl nil_ok) this
  -- the first loop
  obtain ⟨n1, hn1, hr1⟩ : ∃ n1 : Nat, n1 ≤ 2 ^ k ∧ ∀ (s : St) (ns : List Int) (x5 : Option D), ns.length = 2 ^ k → fRng1 (fCons (fIf (fTest (fBin (gEq false) (fVar 4) (fC (.int 0)))) (fBl gLen (fCons (fVar 3) fNil)) (fC (.int 0))) fNil) [some (.loc 1), some (.int p), some (.int k), some (.loc 2), some (.int kind), x5] (dm s ++ (pre [] ++ [Cell.lst (ns.map .int)])) = .ok (rangeD 0 (n1 : Int), dm s ++ (pre [] ++ [Cell.lst (ns.map .int)])) := by
    by_cases h : kind = 0
    · exact ⟨2 ^ k, Nat.le_refl _, fun s ns x5 hl => rng_ok (cons_ok (if_t (tst_ok (bin_ok rfl rfl (eq_t h))) (hlen s ns x5 hl)) nil_ok) (rngFits_nat (by omega))⟩
    · exact ⟨0, Nat.zero_le _, fun s ns x5 hl => rng_ok (cons_ok (if_f (tst_ok (bin_ok rfl rfl (eq_f h))) rfl) nil_ok) (rngFits_nat (by omega))⟩
  obtain ⟨env4, m4, l1, s4, ns4, x54, g4, hl4, hns4, rfl, rfl⟩ := few_loop (p := p) (L := 2 ^ k) (k := k) (kind := kind) (fi := fVar 5) (fb := fewT) (n := n1) (env := [some (.loc 1), some (.int p), some (.int k), some (.loc 2), some (.int kind), none]) (m := dm s3 ++ (pre [] ++ [Cell.lst (ns.map .int)])) ⟨s3, ns, none, g3, hl, hn, rfl, rfl⟩ fun i s ns hi g hl hn => by
    obtain ⟨u, s', u0, u1, g', e⟩ := any_ok g (b := 3) (by decide) (by decide)
    have hc := any_call (s := s) (s' := s') (b := 3) (r := u) (fb := fC (.int 3)) (e1 := [some (.int p), some (.int k), some (.loc 2), some (.int kind), some (.int (i : Int))]) (rest := pre [] ++ [Cell.lst (ns.map .int)]) rfl e
    obtain ⟨v, hv, rv⟩ := at_res hn hp0 (i := i) (by omega)
    by_cases hu : u = 0
    · exact ⟨v % p, i, s', Res.mod hp0 _, g', by omega, if_t (tst_ok (bin_ok hc rfl (eq_t hu))) (bin_ok (bl_ok (cons_ok (bin_ok rfl rfl (ix_loc (ls := []) hv)) nil_ok) gInt_int) rfl (mod_ok hp0')), rfl⟩
    · exact ⟨0, i, s', ⟨by decide, hp0'⟩, g', by omega, if_f (tst_ok (bin_ok hc rfl (eq_f hu))) rfl, rfl⟩
  -- the second
  have dv : divFits 2 = true := divFits_of 1 (by decide) (by decide) (by decide)
  obtain ⟨h, hh⟩ : ∃ h : Nat, h + h = 2 ^ k := ⟨2 ^ (k - 1), by
    obtain ⟨q, rfl⟩ : ∃ q, k = q + 1 := ⟨k - 1, by omega⟩
    rw [Nat.add_sub_cancel, Nat.pow_succ]; omega⟩
  have hhalf : (((2 ^ k : Nat) : Int)) / 2 = (h : Int) := by omega
  have hhalf' : ∀ (s : St) (ns : List Int) (x5 : Option D), ns.length = 2 ^ k → fBin gDiv (fBl gLen (fCons (fVar 3) fNil)) (fC (.int 2)) [some (.loc 1), some (.int p), some (.int k), some (.loc 2), some (.int kind), x5] (dm s ++ (pre [] ++ [Cell.lst (ns.map .int)])) = .ok (.int (h : Int), dm s ++ (pre [] ++ [Cell.lst (ns.map .int)])) := fun s ns x5 hl => by
    refine bin_ok (hlen s ns x5 hl) rfl ?_
    rw [div_ok dv, hhalf]
  obtain ⟨n2, hn2, hr2⟩ : ∃ n2 : Nat, n2 ≤ h ∧ ∀ (s : St) (ns : List Int) (x5 : Option D), ns.length = 2 ^ k → fRng1 (fCons (fIf (fTest (fBin (gEq false) (fVar 4) (fC (.int 1)))) (fBin gDiv (fBl gLen (fCons (fVar 3) fNil)) (fC (.int 2))) (fC (.int 0))) fNil) [some (.loc 1), some (.int p), some (.int k), some (.loc 2), some (.int kind), x5] (dm s ++ (pre [] ++ [Cell.lst (ns.map .int)])) = .ok (rangeD 0 (n2 : Int), dm s ++ (pre [] ++ [Cell.lst (ns.map .int)])) := by
    by_cases h1 : kind = 1
    · exact ⟨h, Nat.le_refl _, fun s ns x5 hl => rng_ok (cons_ok (if_t (tst_ok (bin_ok rfl rfl (eq_t h1))) (hhalf' s ns x5 hl)) nil_ok) (rngFits_nat (by omega))⟩
    · exact ⟨0, Nat.zero_le _, fun s ns x5 hl => rng_ok (cons_ok (if_f (tst_ok (bin_ok rfl rfl (eq_f h1))) rfl) nil_ok) (rngFits_nat (by omega))⟩
  obtain ⟨env5, m5, l2, s5, ns5, x55, g5, hl5, hns5, rfl, rfl⟩ := few_loop (p := p) (L := 2 ^ k) (k := k) (kind := kind) (fi := fBin (gAdd false) (fBin gDiv (fBl gLen (fCons (fVar 3) fNil)) (fC (.int 2))) (fVar 5)) (fb := fBin gIx (fVar 3) (fVar 5)) (n := n2) (env := [some (.loc 1), some (.int p), some (.int k), some (.loc 2), some (.int kind), x54]) (m := dm s4 ++ (pre [] ++ [Cell.lst (ns4.map .int)])) ⟨s4, ns4, x54, g4, hl4, hns4, rfl, rfl⟩ fun i s ns hi g hl hn => by
    obtain ⟨v, hv, rv⟩ := at_res hn hp0 (i := i) (by omega)
    refine ⟨v, h + i, s, rv, g, by omega, bin_ok rfl rfl (ix_loc (ls := []) hv), bin_ok (hhalf' s ns _ hl) rfl ?_⟩
    rw [gAdd_int, Int.natCast_add]
  refine ⟨p, k, ns5, s5, hp, hk1, hsm, ⟨hk12, hl5, hns5, fun _ _ => hsm⟩, g5, deal_run0 (ex := pre [] ++ [Cell.lst (ns5.map .int)]) (by simp) ?_ (by simp) (env := [some (.loc 1), some (.int p), some (.int k), some (.loc 2), some (.int kind), x55])⟩
  exact thn_nx st1 (thn_nx st2 (thn_nx st3 (thn_nx (for_ok (hr1 s3 ns none hl) l1) (thn_nx (for_ok (hr2 s4 ns4 x54 hl4) l2) (ret_ok (tup_ok (cons_ok rfl (cons_ok (bl_ok (cons_ok rfl nil_ok) (tuple_loc (ls := []))) nil_ok)) rfl (by simp)))))))
end K60


set_option Elab.async false
set_option linter.all false
set_option maxRecDepth 100000
set_option maxHeartbeats 1000000
namespace K60
open PySem Sm Lb Nm
def big : Int := 10 ^ 64 * 10 ^ 64 * 10 ^ 64 * 10 ^ 64 * 10 ^ 64 * 10 ^ 64
theorem big_pos : 0 < big := by decide +kernel
theorem pow64 {m : Mem} : gPow (.int 10) (.int 64) m = .ok (.int (10 ^ 64), m) := rfl
theorem pow18 {m : Mem} : gPow (.int 10) (.int 18) m = .ok (.int 1000000000000000000, m) := rfl
theorem big_ok {env : Sm.Env} {m : Mem} : fBin (gMul false) (fBin (gMul false) (fBin (gMul false) (fBin (gMul false) (fBin (gMul false) (fBin gPow (fC (.int 10)) (fC (.int 64))) (fBin gPow (fC (.int 10)) (fC (.int 64)))) (fBin gPow (fC (.int 10)) (fC (.int 64)))) (fBin gPow (fC (.int 10)) (fC (.int 64)))) (fBin gPow (fC (.int 10)) (fC (.int 64)))) (fBin gPow (fC (.int 10)) (fC (.int 64))) env m = .ok (.int big, m) := by
  have p : fBin gPow (fC (.int 10)) (fC (.int 64)) env m = .ok (.int (10 ^ 64), m) := bin_ok rfl rfl pow64
  exact bin_ok (bin_ok (bin_ok (bin_ok (bin_ok p p (mul_ok (by decide +kernel))) p (mul_ok (by decide +kernel))) p (mul_ok (by decide +kernel))) p (mul_ok (by decide +kernel))) p (mul_ok (by decide +kernel))
theorem deal_ok {ns : List Int} (hl : ns.length ≤ 63) : ∃ s, Good s ∧ f__law_deal [.scr (ns.map .int), .int 60] [] = .ok (.loc 1, dm s) := by
  obtain ⟨B, hB⟩ : ∃ B, B = big := ⟨_, rfl⟩
  have hB0 : 0 < B := by rw [hB]; exact big_pos
  have st1 : fAsg 2 (fBin (gMul false) (fBin (gMul false) (fBin (gMul false) (fBin (gMul false) (fBin (gMul false) (fBin gPow (fC (.int 10)) (fC (.int 64))) (fBin gPow (fC (.int 10)) (fC (.int 64)))) (fBin gPow (fC (.int 10)) (fC (.int 64)))) (fBin gPow (fC (.int 10)) (fC (.int 64)))) (fBin gPow (fC (.int 10)) (fC (.int 64)))) (fBin gPow (fC (.int 10)) (fC (.int 64)))) [some (.scr (ns.map .int)), some (.int 60), none, none, none, none] [] = .ok (.nx, [some (.scr (ns.map .int)), some (.int 60), some (.int B), none, none, none], []) := by
    rw [hB]
    exact asg_ok big_ok
  have c1 := compL_map (b := bName 5) (t := fYes) (fe := fBin gMod (fBl gInt (fCons (fBl gAbs (fCons (fBl gInt (fCons (fVar 5) fNil)) fNil)) fNil)) (fVar 2)) (env := [some (.scr (ns.map .int)), some (.int 60), some (.int B), none, none, none]) (m := []) D.int (fun _ => true) (fun x => D.int ((if x < 0 then -x else x) % B)) ns (fun x _ => ⟨_, rfl, rfl, fun _ => ⟨bin_ok (bl_ok (cons_ok (bl_ok (cons_ok (bl_ok (cons_ok rfl nil_ok) gInt_int) nil_ok) gAbs_int) nil_ok) gInt_int) rfl (mod_ok hB0), rfl⟩⟩)
  rw [List.filter_eq_self.mpr (fun _ _ => rfl)] at c1
  have hm1 : ns.map (fun x => D.int ((if x < 0 then -x else x) % B)) = (ns.map fun x => (if x < 0 then -x else x) % B).map D.int := by rw [List.map_map]; rfl
  rw [hm1] at c1
  obtain ⟨cl, hcl⟩ : ∃ cl, cl = ns.map fun x => (if x < 0 then -x else x) % B := ⟨_, rfl⟩
  rw [← hcl] at c1
  have hcll : cl.length = ns.length := by rw [hcl, List.length_map]
  have hsl : fSl false (fVar 0) fNoP (fPart (fC (.int 63))) [some (.scr (ns.map .int)), some (.int 60), some (.int B), none, none, none] [] = .ok (.lst (ns.map .int), []) := by
    have hc : cutD (ns.map D.int) none (some ((63 : Nat) : Int)) = ns.map D.int := by
      unfold cutD
      rw [HT.sIx_nat, HT.sIx_none, List.drop_zero, Nat.sub_zero, List.length_map, Nat.min_eq_right hl, List.take_of_length_le (by rw [List.length_map]; exact Nat.le_refl _)]
    have h0 : fSl false (fVar 0) fNoP (fPart (fC (.int 63))) [some (.scr (ns.map .int)), some (.int 60), some (.int B), none, none, none] [] = .ok (.lst (cutD (ns.map D.int) none (some ((63 : Nat) : Int))), []) := rfl
    rw [h0, hc]
  have h2 := comp_ok (c := false) (vs := [5]) (env := [some (.scr (ns.map .int)), some (.int 60), some (.int B), none, none, none]) (fi := fSeq (fSl false (fVar 0) fNoP (fPart (fC (.int 63))))) (seq_of hsl rfl) (by rw [List.length_map]; omega) c1
  rw [mkL_f] at h2
  have st2 := asg_ok (i := 3) h2
  have st3 : fAsg 4 (fBin (gAdd false) (fC (.int 70001)) (fBin (gMul false) (fC (.int 7919)) (fVar 1))) [some (.scr (ns.map .int)), some (.int 60), some (.int B), some (.lst (cl.map .int)), none, none] [] = .ok (.nx, [some (.scr (ns.map .int)), some (.int 60), some (.int B), some (.lst (cl.map .int)), some (.int (70001 + 7919 * 60)), none], []) := asg_ok (bin_ok rfl (bin_ok rfl rfl (mul_ok (by decide +kernel))) gAdd_int)
  obtain ⟨env4, m4, l4, mix, x5, hm0, hmh, rfl, rfl⟩ := loop_ok (b := bName 5) (body := fAsg 4 (fBin gMod (fBl gInt (fCons (fBin (gAdd false) (fBin (gAdd false) (fBin (gMul false) (fVar 4) (fC (.int 69621))) (fBin gMod (fBl gInt (fCons (fVar 5) fNil)) (fC (.int 2147483563)))) (fC (.int 23))) fNil)) (fC (.int 2147483647)))) (ds := cl.map .int) (env := [some (.scr (ns.map .int)), some (.int 60), some (.int B), some (.lst (cl.map .int)), some (.int (70001 + 7919 * 60)), none]) (m := [])
    (fun _ env m => ∃ (mix : Int) (x5 : Option D), 0 ≤ mix ∧ mix < 2147483647 ∧ env = [some (.scr (ns.map .int)), some (.int 60), some (.int B), some (.lst (cl.map .int)), some (.int mix), x5] ∧ m = []) ⟨_, none, by decide, by decide, rfl, rfl⟩ (fun i d env m hd hi => by
    obtain ⟨mix, x5, m0, m1, rfl, rfl⟩ := hi
    rw [List.getElem?_map] at hd
    obtain ⟨c, _, rfl⟩ := Option.map_eq_some_iff.mp hd
    have f : mulFits mix 69621 = true := mulFits_of 31 31 (by omega) (by decide) (by decide)
    exact ⟨_, _, _, rfl, asg_ok (bin_ok (bl_ok (cons_ok (bin_ok (bin_ok (bin_ok rfl rfl (mul_ok f)) (bin_ok (bl_ok (cons_ok rfl nil_ok) gInt_int) rfl (mod_ok (by decide))) gAdd_int) rfl gAdd_int) nil_ok) gInt_int) rfl (mod_ok (by decide))), _, some (.int c), Int.emod_nonneg _ (by decide), Int.emod_lt_of_pos _ (by decide), rfl, rfl⟩)
  have c5 := compL_map (b := bName 5) (t := fTest (fBin (gCmp fun i j => decide (j ≤ i)) (fVar 5) (fBin gPow (fC (.int 10)) (fC (.int 18))))) (fe := fVar 5) (env := [some (.scr (ns.map .int)), some (.int 60), some (.int B), some (.lst (cl.map .int)), some (.int mix), none]) (m := []) D.int (fun x => decide (1000000000000000000 ≤ x)) D.int cl (fun x _ => ⟨_, rfl, tst_ok (bin_ok rfl (bin_ok rfl rfl pow18) gCmp_int), fun _ => ⟨rfl, rfl⟩⟩)
  have h5 := comp_ok (c := false) (vs := [5]) (env := [some (.scr (ns.map .int)), some (.int 60), some (.int B), some (.lst (cl.map .int)), some (.int mix), x5]) (fi := fSeq (fVar 3)) (seq_of (fa := fVar 3) (d := .lst (cl.map .int)) rfl rfl) (by rw [List.length_map]; omega) c5
  rw [mkL_f] at h5
  have hlf : (cl.filter fun x => decide (1000000000000000000 ≤ x)).length ≤ 63 := Nat.le_trans (List.length_filter_le _ _) (by omega)
  obtain ⟨fl, hfl⟩ : ∃ fl, fl = cl.filter fun x => decide (1000000000000000000 ≤ x) := ⟨_, rfl⟩
  rw [← hfl] at h5 hlf
  have h6 : fRev true (fComp false (fSeq (fVar 3)) (bName 5) (fTest (fBin (gCmp fun i j => decide (j ≤ i)) (fVar 5) (fBin gPow (fC (.int 10)) (fC (.int 18))))) (fVar 5) [5]) [some (.scr (ns.map .int)), some (.int 60), some (.int B), some (.lst (cl.map .int)), some (.int mix), x5] [] = .ok (.loc 0, [.lst (fl.reverse.map .int)]) := by
    rw [fRev_eq, h5]
    show Sm.R.ok (mkL true (fl.map D.int).reverse []) = _
    rw [← List.map_reverse]
    rfl
  refine ⟨⟨fl.reverse, mix⟩, ⟨by rw [List.length_reverse]; exact hlf, hm0, hmh⟩, mkFn_run (env := [some (.scr (ns.map .int)), some (.int 60), some (.int B), some (.lst (cl.map .int)), some (.int mix), x5]) ?_⟩
  refine thn_nx st1 (thn_nx st2 (thn_nx st3 (thn_nx (for_ok (seq_of (fa := fVar 3) (d := .lst (cl.map .int)) rfl rfl) l4) (ret_ok ?_))))
  rw [fLst_eq]
  rw [cons_ok h6 (cons_ok rfl nil_ok)]
  show (if [D.loc 0, .int mix].length ≤ sizeLine then Sm.R.ok (mkL true [D.loc 0, .int mix] [.lst (fl.reverse.map .int)]) else .bad) = _
  rw [if_pos (by rw [sizeLine_num]; simp)]
  rfl
theorem same_ok (a : Int) (m : Mem) : f__law_same [.int a, .int a] m = .ok (.bl true, m) := by
  have hd : f__law_same = pure1 (mkFn 3 (b__law_same (r__law_same 11))) := by
    show r__law_same (11 + 1) = _
    rw [r__law_same]
  rw [hd]
  refine pure1_run (m' := []) rfl (mkFn_run (env := [some (.int a), some (.int a), none]) ?_) rfl
  exact thn_nx (ifs_f (tst_ok (b := false) rfl) rfl) (thn_nx (ifs_f (tst_ok (b := false) rfl) rfl) (thn_nx (ifs_f (or_f (tst_ok (b := false) rfl) (tst_ok (b := false) rfl)) rfl) (thn_nx (ifs_f (tst_ok (b := false) rfl) rfl) (ret_ok (by
    have h1 : fIsi "int" (fVar 0) [some (.int a), some (.int a), none] [] = .ok (.bl true, []) := rfl
    have h2 : fNotV (fIsi "bool" (fVar 0)) [some (.int a), some (.int a), none] [] = .ok (.bl true, []) := rfl
    have h3 : fBin (gEq false) (fVar 0) (fVar 1) [some (.int a), some (.int a), none] [] = .ok (.bl true, []) := bin_ok rfl rfl (eq_t rfl)
    rw [fAndV_eq, h1]
    show fAndV (fNotV (fIsi "bool" (fVar 0))) (fBin (gEq false) (fVar 0) (fVar 1)) [some (.int a), some (.int a), none] [] = _
    rw [fAndV_eq, h2]
    exact h3)))))
def two (v : Int) : D := .tup [.int v, .int v]
theorem all_ok {vs : List Int} (hl : vs.length ≤ 1000) (m : Mem) : f__law_all [.lst (vs.map two)] m = .ok (.bl true, m) := by
  have hbe : belows 0 (vs.map two) = true := by rw [belows_all]; simp [two]
  have c := compL_map (b := bTup 2 (bCons (bName 1) (bCons (bName 2) bNil))) (t := fNot (fTest (fCall f__law_same 2 (fCons (fVar 1) (fCons (fVar 2) fNil))))) (fe := fVar 1) (env := [some (.lst (vs.map two)), none, none]) (m := []) two (fun _ => false) two vs (fun v _ => ⟨[some (.lst (vs.map two)), some (.int v), some (.int v)], rfl, not_ok (b := true) (tst_ok (call_ok (cons_ok rfl (cons_ok rfl nil_ok)) rfl (same_ok v []))), fun h => by cases h⟩)
  have hf : vs.filter (fun _ => false) = [] := List.filter_eq_nil_iff.mpr fun _ _ h => by cases h
  rw [hf] at c
  have h1 := comp_ok (c := false) (vs := [1, 2]) (env := [some (.lst (vs.map two)), none, none]) (fi := fSeq (fVar 0)) (seq_of (fa := fVar 0) (d := .lst (vs.map two)) rfl rfl) (by rw [List.length_map]; omega) c
  rw [mkL_f] at h1
  refine pure1_run (m' := []) (by rw [belows_cons, below_lst, hbe]; rfl) (mkFn_run (env := [some (.lst (vs.map two)), none, none]) ?_) rfl
  exact ret_ok (bin_ok (bl_ok (cons_ok h1 nil_ok) gLen_lst) rfl (eq_t rfl))
end K60


set_option Elab.async false
set_option linter.all false
set_option maxRecDepth 100000
set_option maxHeartbeats 1000000
namespace K60
open PySem Sm Lb Nm
/-- what stands after a draw of the first loop -/
def J1 (S : D) (i : Nat) (env : Sm.Env) (m : Mem) : Prop := ∃ (s : St) (p k : Nat) (ns vs : List Int) (x5 : Option D), Good s ∧ p ∈ primes ∧ RowIs p k ns ∧ vs.length ≤ i ∧ env = [some S, some (.loc 1), some (.loc 2), some (.int p), some (.tup (ns.map .int)), x5, none, none, none] ∧ m = dm s ++ [.lst (vs.map two)]
def pairE (p r : Nat) : FE := fTup (fCons (fCall f_nought_points 2 (fCons (fVar p) (fCons (fVar r) fNil))) (fCons (fCall f__law_noughts 2 (fCons (fVar p) (fCons (fVar r) fNil))) fNil))
theorem np_ok {p k : Nat} {ns : List Int} (hp : p ∈ primes) (h : RowIs p k ns) (m : Mem) : f_nought_points [.int p, .tup (ns.map .int)] m = .ok (.int (cnt p k ns : Nat), m) := nought_points_ok (pr_all p hp) (le_all p hp).2 h.small h.res h.len h.few (.tup _) m
theorem ln_ok {p k : Nat} {ns : List Int} (hp : p ∈ primes) (h : RowIs p k ns) (m : Mem) : f__law_noughts [.int p, .tup (ns.map .int)] m = .ok (.int (cnt p k ns : Nat), m) := law_noughts_ok (pr_all p hp) (le_all p hp).2 h.small h.res h.len h.few (.tup _) m
theorem pair_ok {p k : Nat} {ns : List Int} (hp : p ∈ primes) (h : RowIs p k ns) {S : D} {v2 x5 x6 x7 x8 : Option D} (m : Mem) : pairE 3 4 [some S, some (.loc 1), v2, some (.int p), some (.tup (ns.map .int)), x5, x6, x7, x8] m = .ok (two (cnt p k ns : Nat), m) :=
  tup_ok (cons_ok (call_ok (cons_ok rfl (cons_ok rfl nil_ok)) rfl (np_ok hp h m)) (cons_ok (call_ok (cons_ok rfl (cons_ok rfl nil_ok)) rfl (ln_ok hp h m)) nil_ok)) rfl (by simp)
theorem loop1_ok {S : D} {i : Nat} {d : D} {env : Sm.Env} {m : Mem} (hi : i < 9) (h : J1 S i env m) : ∃ env1 env2 m2, bName 5 d env = .ok env1 ∧ (fThen (fAsg 3 (fCall f__law_prime 1 (fCons (fVar 1) fNil)))
    (fThen (fAsg 4 (fCall f__law_row_counted 2 (fCons (fVar 1) (fCons (fVar 3) fNil))))
    (fDrop (fAppend (fVar 2) (pairE 3 4))))) env1 m = .ok (.nx, env2, m2) ∧ J1 S (i + 1) env2 m2 := by
  obtain ⟨s, p, k, ns, vs, x5, g, hp, hr, hl, rfl, rfl⟩ := h
  obtain ⟨p1, s1, hp1, g1, e1⟩ := prime_ok g
  obtain ⟨k2, ns2, s2, hr2, g2, e2⟩ := row_counted_ok (le_all p1 hp1).2 (le_all p1 hp1).1 g1
  refine ⟨_, [some S, some (.loc 1), some (.loc 2), some (.int p1), some (.tup (ns2.map .int)), some d, none, none, none], dm s2 ++ [.lst ((vs ++ [((cnt p1 k2 ns2 : Nat) : Int)]).map two)], rfl, ?_, s2, p1, k2, ns2, vs ++ [((cnt p1 k2 ns2 : Nat) : Int)], some d, g2, hp1, hr2, by simp; omega, rfl, rfl⟩
  have st1 : fAsg 3 (fCall f__law_prime 1 (fCons (fVar 1) fNil)) [some S, some (.loc 1), some (.loc 2), some (.int p), some (.tup (ns.map .int)), some d, none, none, none] (dm s ++ [.lst (vs.map two)]) = .ok (.nx, [some S, some (.loc 1), some (.loc 2), some (.int p1), some (.tup (ns.map .int)), some d, none, none, none], dm s1 ++ [.lst (vs.map two)]) := asg_ok (call_ok (cons_ok rfl nil_ok) rfl (e1 _))
  have st2 : fAsg 4 (fCall f__law_row_counted 2 (fCons (fVar 1) (fCons (fVar 3) fNil))) [some S, some (.loc 1), some (.loc 2), some (.int p1), some (.tup (ns.map .int)), some d, none, none, none] (dm s1 ++ [.lst (vs.map two)]) = .ok (.nx, [some S, some (.loc 1), some (.loc 2), some (.int p1), some (.tup (ns2.map .int)), some d, none, none, none], dm s2 ++ [.lst (vs.map two)]) := asg_ok (call_ok (cons_ok rfl (cons_ok rfl nil_ok)) rfl (e2 _))
  have ap := append_at (fo := fVar 2) (fe := pairE 3 4) (env := [some S, some (.loc 1), some (.loc 2), some (.int p1), some (.tup (ns2.map .int)), some d, none, none, none]) (m := dm s2) (ds := vs.map two) (y := two (cnt p1 k2 ns2 : Nat)) rfl (pair_ok hp1 hr2 _) (fun M => rfl) (by rw [List.length_map]; omega)
  have hm : vs.map two ++ [two (cnt p1 k2 ns2 : Nat)] = (vs ++ [((cnt p1 k2 ns2 : Nat) : Int)]).map two := by rw [List.map_append]; rfl
  rw [hm] at ap
  exact thn_nx st1 (thn_nx st2 (drop_ok ap))
/-- .. of the second -/
def J2 (S : D) (i : Nat) (env : Sm.Env) (m : Mem) : Prop := ∃ (s : St) (p k : Nat) (ns vs : List Int) (rest : Mem) (n : Nat) (x5 x6 x7 x8 : Option D), Good s ∧ p ∈ primes ∧ RowIs p k ns ∧ vs.length ≤ 9 + 2 * i ∧ rest[n]? = some (.lst (vs.map two)) ∧ env = [some S, some (.loc 1), some (.loc (2 + n)), some (.int p), some (.tup (ns.map .int)), x5, x6, x7, x8] ∧ m = dm s ++ rest
theorem rest_seq {s : St} {rest : Mem} {n : Nat} {ds : List D} (h : rest[n]? = some (.lst ds)) : seqL (dm s ++ rest) (.loc (2 + n)) = some ds := by
  have hg : (dm s ++ rest)[2 + n]? = some (.lst ds) := by
    rw [List.getElem?_append_right (by show 2 ≤ 2 + n; omega)]
    show rest[2 + n - 2]? = _
    rw [Nat.add_sub_cancel_left]
    exact h
  show (match (dm s ++ rest)[2 + n]? with
    | some (.lst ds) => some ds
    | some (.frz (.lst ds)) => some ds
    | _ => none) = _
  rw [hg]
theorem add_loc {c : Bool} {s : St} {rest : Mem} {n : Nat} {ds es : List D} (h : rest[n]? = some (.lst ds)) (hl : ds.length + es.length ≤ 16777216) : gAdd c (.loc (2 + n)) (.lst es) (dm s ++ rest) = .ok (mkL c (ds ++ es) (dm s ++ rest)) := by
  have h1 := rest_seq (s := s) h
  have h2 : seqL (dm s ++ rest) (.lst es) = some es := rfl
  have hl' : ds.length + es.length ≤ sizeLine := by rw [sizeLine_num]; exact hl
  unfold gAdd
  simp only [h1, h2]
  rw [if_pos hl']
def body2 : FS := (fThen (fUnp (bTup 2 (bCons (bName 6) (bCons (bName 7) bNil))) (fCall f__law_row_of_few 1 (fCons (fVar 1) fNil)))
    (fThen (fAsg 8 (fCall f__law_points 2 (fCons (fVar 6) (fCons (fVar 7) fNil))))
    (fAsg 2 (fBin (gAdd true) (fVar 2) (fLst false (fCons (fTup (fCons (fCall f_nought_points 2 (fCons (fVar 6) (fCons (fVar 7) fNil))) (fCons (fVar 8) fNil))) (fCons (fTup (fCons (fCallK f_nought_points 2 [1, 0] (fCons (fVar 7) (fCons (fVar 6) fNil))) (fCons (fVar 8) fNil))) fNil)))))))
theorem loop2_ok {S : D} {i : Nat} {d : D} {env : Sm.Env} {m : Mem} (hi : i < 3) (h : J2 S i env m) : ∃ env1 env2 m2, bName 5 d env = .ok env1 ∧ body2 env1 m = .ok (.nx, env2, m2) ∧ J2 S (i + 1) env2 m2 := by
  obtain ⟨s, p, k, ns, vs, rest, n, x5, x6, x7, x8, g, hp, hr, hl, hn, rfl, rfl⟩ := h
  obtain ⟨q, j, rs, s1, hq, hj1, hjs, hrr, g1, e1⟩ := row_of_few_ok g
  obtain ⟨v, hv⟩ : ∃ v : Int, v = (cnt q j rs : Nat) := ⟨_, rfl⟩
  have lp : ∀ M, f__law_points [.int q, .tup (rs.map .int)] M = .ok (.int v, M) := fun M => by
    rw [hv]
    exact law_points_ok (le_all q hq).2 (by have := (le_all q hq).1; omega) hj1 hrr.small hjs hrr.res hrr.len (.tup _) M
  have np : ∀ M, f_nought_points [.int q, .tup (rs.map .int)] M = .ok (.int v, M) := fun M => by
    rw [hv]
    exact np_ok hq hrr M
  have st1 : fUnp (bTup 2 (bCons (bName 6) (bCons (bName 7) bNil))) (fCall f__law_row_of_few 1 (fCons (fVar 1) fNil)) [some S, some (.loc 1), some (.loc (2 + n)), some (.int p), some (.tup (ns.map .int)), some d, x6, x7, x8] (dm s ++ rest) = .ok (.nx, [some S, some (.loc 1), some (.loc (2 + n)), some (.int p), some (.tup (ns.map .int)), some d, some (.int q), some (.tup (rs.map .int)), x8], dm s1 ++ rest) := unp_ok (call_ok (cons_ok rfl nil_ok) rfl (e1 rest)) rfl
  have st2 : fAsg 8 (fCall f__law_points 2 (fCons (fVar 6) (fCons (fVar 7) fNil))) [some S, some (.loc 1), some (.loc (2 + n)), some (.int p), some (.tup (ns.map .int)), some d, some (.int q), some (.tup (rs.map .int)), x8] (dm s1 ++ rest) = .ok (.nx, [some S, some (.loc 1), some (.loc (2 + n)), some (.int p), some (.tup (ns.map .int)), some d, some (.int q), some (.tup (rs.map .int)), some (.int v)], dm s1 ++ rest) := asg_ok (call_ok (cons_ok rfl (cons_ok rfl nil_ok)) rfl (lp _))
  have hL : fLst false (fCons (fTup (fCons (fCall f_nought_points 2 (fCons (fVar 6) (fCons (fVar 7) fNil))) (fCons (fVar 8) fNil))) (fCons (fTup (fCons (fCallK f_nought_points 2 [1, 0] (fCons (fVar 7) (fCons (fVar 6) fNil))) (fCons (fVar 8) fNil))) fNil)) [some S, some (.loc 1), some (.loc (2 + n)), some (.int p), some (.tup (ns.map .int)), some d, some (.int q), some (.tup (rs.map .int)), some (.int v)] (dm s1 ++ rest) = .ok (.lst [two v, two v], dm s1 ++ rest) :=
    lst_ok (cons_ok (tup_ok (cons_ok (call_ok (cons_ok rfl (cons_ok rfl nil_ok)) rfl (np _)) (cons_ok rfl nil_ok)) rfl (by simp)) (cons_ok (tup_ok (cons_ok (callK_ok (cons_ok rfl (cons_ok rfl nil_ok)) rfl rfl (np _)) (cons_ok rfl nil_ok)) rfl (by simp)) nil_ok)) rfl (by simp)
  have hadd := add_loc (c := true) (s := s1) hn (es := [two v, two v]) (by rw [List.length_map]; simp; omega)
  have hm : vs.map two ++ [two v, two v] = (vs ++ [v, v]).map two := by rw [List.map_append]; rfl
  rw [hm, mkL_t] at hadd
  have hlen : (dm s1 ++ rest).length = 2 + rest.length := by rw [List.length_append]; rfl
  rw [hlen, List.append_assoc] at hadd
  have st3 := asg_ok (i := 2) (bin_ok (k := gAdd true) (fa := fVar 2) (env := [some S, some (.loc 1), some (.loc (2 + n)), some (.int p), some (.tup (ns.map .int)), some d, some (.int q), some (.tup (rs.map .int)), some (.int v)]) rfl hL hadd)
  exact ⟨_, _, _, rfl, thn_nx st1 (thn_nx st2 st3), s1, p, k, ns, vs ++ [v, v], rest ++ [.lst ((vs ++ [v, v]).map two)], rest.length, _, _, _, _, g1, hp, hr, by simp; omega, by simp, rfl, rfl⟩
theorem rng_lit {n : Nat} {env : Sm.Env} {m : Mem} (h : n ≤ 1000) : fRng1 (fCons (fC (.int (n : Int))) fNil) env m = .ok (rangeD 0 (n : Int), m) := rng_ok (cons_ok rfl nil_ok) (rngFits_nat (by omega))
theorem rng_len (n : Nat) : (rangeD 0 (n : Int)).length = n := by rw [range_map]; simp
theorem rng_lt {n i : Nat} {d : D} (h : (rangeD 0 (n : Int))[i]? = some d) : i < n := by
  have := (List.getElem?_eq_some_iff.mp h).1
  rw [rng_len] at this
  exact this
theorem law_true : ∀ ns : List Int, ns.length ≤ 63 → ∃ m, f_law_k60 [.scr (ns.map D.int)] [] = .ok (.bl true, m) := fun ns0 hl0 => by
  obtain ⟨s, g, e⟩ := deal_ok hl0
  obtain ⟨S, hS⟩ : ∃ S, S = D.scr (ns0.map D.int) := ⟨_, rfl⟩
  rw [← hS] at e ⊢
  have st1 : fAsg 1 (fCall f__law_deal 2 (fCons (fVar 0) (fCons (fC (.int 60)) fNil))) [some S, none, none, none, none, none, none, none, none] [] = .ok (.nx, [some S, some (.loc 1), none, none, none, none, none, none, none], dm s) := asg_ok (call_ok (cons_ok rfl (cons_ok rfl nil_ok)) rfl e)
  have st2 : fPar3 2 3 4 (fCons (fLst true fNil) (fCons (fC (.int 5)) (fCons (fTup (fCons (fC (.int 0)) fNil)) fNil))) [some S, some (.loc 1), none, none, none, none, none, none, none] (dm s) = .ok (.nx, [some S, some (.loc 1), some (.loc 2), some (.int 5), some (.tup [.int 0]), none, none, none, none], dm s ++ [.lst []]) := by
    have h1 : fLst true fNil [some S, some (.loc 1), none, none, none, none, none, none, none] (dm s) = .ok (.loc 2, dm s ++ [.lst []]) := lst_ok (c := true) (ds := []) nil_ok rfl (by simp)
    have h2 : fTup (fCons (fC (.int 0)) fNil) [some S, some (.loc 1), none, none, none, none, none, none, none] (dm s ++ [.lst []]) = .ok (.tup [.int 0], dm s ++ [.lst []]) := tup_ok (cons_ok rfl nil_ok) rfl (by simp)
    exact par3_ok (cons_ok h1 (cons_ok rfl (cons_ok h2 nil_ok)))
  obtain ⟨env1, m1, l1, j1⟩ := loop_ok (b := bName 5) (ds := rangeD 0 ((9 : Nat) : Int)) (J1 S) (env := [some S, some (.loc 1), some (.loc 2), some (.int 5), some (.tup [.int 0]), none, none, none, none]) (m := dm s ++ [.lst []]) ⟨s, 5, 0, [0], [], none, g, by decide, .of2 (by decide) rfl (fun x hx => by rw [List.mem_singleton.mp hx]; exact ⟨by decide, by decide⟩), by decide, rfl, rfl⟩ (fun i d env m hd hi => loop1_ok (rng_lt hd) hi)
  rw [rng_len] at j1
  obtain ⟨s1, p, k, ns, vs, x5, g1, hp, hr, hl, rfl, rfl⟩ := j1
  obtain ⟨env2, m2, l2, j2⟩ := loop_ok (b := bName 5) (body := body2) (ds := rangeD 0 ((3 : Nat) : Int)) (J2 S) (env := [some S, some (.loc 1), some (.loc 2), some (.int p), some (.tup (ns.map .int)), x5, none, none, none]) (m := dm s1 ++ [.lst (vs.map two)]) ⟨s1, p, k, ns, vs, [.lst (vs.map two)], 0, _, _, _, _, g1, hp, hr, by omega, rfl, rfl, rfl⟩ (fun i d env m hd hi => loop2_ok (rng_lt hd) hi)
  rw [rng_len] at j2
  obtain ⟨s2, p', k', ns', vs2, rest, n, y5, y6, y7, y8, g2, hp', hr', hl2, hn, rfl, rfl⟩ := j2
  obtain ⟨v, hv⟩ : ∃ v : Int, v = (cnt p' k' ns' : Nat) := ⟨_, rfl⟩
  have np : ∀ M, f_nought_points [.int p', .tup (ns'.map .int)] M = .ok (.int v, M) := fun M => by
    rw [hv]
    exact np_ok hp' hr' M
  have ln : ∀ M, f__law_noughts [.int p', .tup (ns'.map .int)] M = .ok (.int v, M) := fun M => by
    rw [hv]
    exact ln_ok hp' hr' M
  have hL : fLst false (fCons (fTup (fCons (fCall f_nought_points 2 (fCons (fVar 3) (fCons (fVar 4) fNil))) (fCons (fCall f__law_noughts 2 (fCons (fVar 3) (fCons (fVar 4) fNil))) fNil))) (fCons (fTup (fCons (fCallK f_nought_points 2 [0, 1] (fCons (fVar 3) (fCons (fVar 4) fNil))) (fCons (fCall f__law_noughts 2 (fCons (fVar 3) (fCons (fVar 4) fNil))) fNil))) fNil)) [some S, some (.loc 1), some (.loc (2 + n)), some (.int p'), some (.tup (ns'.map .int)), y5, y6, y7, y8] (dm s2 ++ rest) = .ok (.lst [two v, two v], dm s2 ++ rest) :=
    lst_ok (cons_ok (tup_ok (cons_ok (call_ok (cons_ok rfl (cons_ok rfl nil_ok)) rfl (np _)) (cons_ok (call_ok (cons_ok rfl (cons_ok rfl nil_ok)) rfl (ln _)) nil_ok)) rfl (by simp)) (cons_ok (tup_ok (cons_ok (callK_ok (cons_ok rfl (cons_ok rfl nil_ok)) rfl rfl (np _)) (cons_ok (call_ok (cons_ok rfl (cons_ok rfl nil_ok)) rfl (ln _)) nil_ok)) rfl (by simp)) nil_ok)) rfl (by simp)
  have hadd := add_loc (c := false) (s := s2) hn (es := [two v, two v]) (by rw [List.length_map]; simp; omega)
  have hm : vs2.map two ++ [two v, two v] = (vs2 ++ [v, v]).map two := by rw [List.map_append]; rfl
  rw [hm, mkL_f] at hadd
  have hall := all_ok (vs := vs2 ++ [v, v]) (by simp; omega) (dm s2 ++ rest)
  refine ⟨dm s2 ++ rest, mkFn_run (env := [some S, some (.loc 1), some (.loc (2 + n)), some (.int p'), some (.tup (ns'.map .int)), y5, y6, y7, y8]) ?_⟩
  exact thn_nx st1 (thn_nx st2 (thn_nx (for_ok (rng_lit (n := 9) (by decide)) l1) (thn_nx (for_ok (rng_lit (n := 3) (by decide)) l2) (ret_ok (call_ok (cons_ok (bin_ok rfl hL hadd) nil_ok) rfl hall)))))
end K60


set_option Elab.async false
set_option linter.all false
set_option maxRecDepth 100000
set_option maxHeartbeats 4000000
/-! K60E: the head, and all together (printed by gen.py). -/
namespace K60
open Sm Lb
open PySem PySem.Spec PyProof.Rows L2
/-! the head, and all together -/
theorem walk {l : PySem.W.OpenLaw} {q : Program} {loose : List Str} {XP : (Str → Option Value) → Heap → Prop} {YP : World → Heap → Prop} {d : DefRec} {K : Params → PySem.W.Frag} (hn : l.most = some 63) (hdf : d.params.defaults = [])
    (hY : ∀ (w : World) (h : Heap), YP w h → (K w.params).In h)
    (F : ∀ (w : World) (mg : Str → Option Value) (fa : Addr) (h : Heap), (K w.params).In h → h.Ns mainGlobals mg → mg d.name = some (.ref fa) →
      ∃ fd : FuncData, (∀ (s : Shared) (u : Value), BindsTo s fd ⟨[u], []⟩ [("script", u)]) ∧ ∀ base : Heap, (K w.params).In base → base.Ns mainGlobals mg → FnOk l.prog w (K w.params) mg base CX0 14 fa fd ["script"] (spScr (K w.params))) :
    PySem.W.WalkO q loose XP YP l.row.toRowW d [] (fun f vs => PySem.call f vs) :=
  L2.walk_of (n := 63) (k := 14) (x := "script") (CX := fun _ => CX0) (sp := fun w => spScr (K w.params)) hn (by decide) hdf ⟨rfl, by decide, by decide⟩ hY F (fun _ _ a ns hl _ hS => ⟨a, ns, rfl, hS, hl, fun _ => rfl⟩) fun _ _ _ _ _ z => z
theorem all {P : Program} {w : World} {K : PySem.W.Frag} {mg : Str → Option Value} {base : Heap} (z : Z mg)
    (T_two_steps : Txt K mg "two_steps" "two_steps" s_two_steps ["number"]) (T_folded : Txt K mg "folded" "folded" s_folded ["p", "row", "letter"]) (T_plain_power : Txt K mg "plain_power" "plain_power" s_plain_power ["number", "often"]) (T_letters_in : Txt K mg "letters_in" "letters_in" s_letters_in ["row"]) (T_inverse : Txt K mg "inverse" "inverse" s_inverse ["p", "one"]) (T_line_noughts : Txt K mg "line_noughts" "line_noughts" s_line_noughts ["p", "low", "high"]) (T_line_nought : Txt K mg "line_nought" "line_nought" s_line_nought ["p", "low", "high"]) (T_square_noughts : Txt K mg "square_noughts" "square_noughts" s_square_noughts ["p", "row"]) (T_small_noughts : Txt K mg "small_noughts" "small_noughts" s_small_noughts ["p", "row"]) (T_parted : Txt K mg "parted" "parted" s_parted ["p", "row"]) (T_noughts_in : Txt K mg "noughts_in" "noughts_in" s_noughts_in ["p", "row"]) (T_nought_points : Txt K mg "nought_points" "nought_points" s_nought_points ["p", "row"]) (T__law_deal : Txt K mg "_law_deal" "_law_deal" s__law_deal ["script", "salt"]) (T__law_any : Txt K mg "_law_any" "_law_any" s__law_any ["deal", "bound"]) (T__law_of : Txt K mg "_law_of" "_law_of" s__law_of ["deal", "some"]) (T__law_prime : Txt K mg "_law_prime" "_law_prime" s__law_prime ["deal"]) (T__law_residue : Txt K mg "_law_residue" "_law_residue" s__law_residue ["deal", "p"]) (T__law_residues : Txt K mg "_law_residues" "_law_residues" s__law_residues ["deal", "p", "many"]) (T__law_same : Txt K mg "_law_same" "_law_same" s__law_same ["told", "due"]) (T__law_all : Txt K mg "_law_all" "_law_all" s__law_all ["pairs"]) (T__law_twos : Txt K mg "_law_twos" "_law_twos" s__law_twos ["many"]) (T__law_letters : Txt K mg "_law_letters" "_law_letters" s__law_letters ["many"]) (T__law_line : Txt K mg "_law_line" "_law_line" s__law_line ["p", "low", "high", "at"]) (T__law_power : Txt K mg "_law_power" "_law_power" s__law_power ["number", "often"]) (T__law_points : Txt K mg "_law_points" "_law_points" s__law_points ["p", "row"]) (T__law_square : Txt K mg "_law_square" "_law_square" s__law_square ["p", "row"]) (T__law_noughts : Txt K mg "_law_noughts" "_law_noughts" s__law_noughts ["p", "row"]) (T__law_countable : Txt K mg "_law_countable" "_law_countable" s__law_countable ["p", "many"]) (T__law_one_alone : Txt K mg "_law_one_alone" "_law_one_alone" s__law_one_alone ["deal", "p", "many"]) (T__law_difference : Txt K mg "_law_difference" "_law_difference" s__law_difference ["deal", "p", "many"]) (T__law_row_counted : Txt K mg "_law_row_counted" "_law_row_counted" s__law_row_counted ["deal", "p"]) (T__law_row_of_few : Txt K mg "_law_row_of_few" "_law_row_of_few" s__law_row_of_few ["deal"]) (T_law : Txt K mg "law" "law" s_law ["script"]) :
    Def P w K mg base 14 "law" s_law ["script"] f_law_k60 := by
  have D_two_steps := d_two_steps (P := P) (w := w) (base := base) T_two_steps z
  have D_folded := d_folded (P := P) (w := w) (base := base) T_folded z
  have D_plain_power := d_plain_power (P := P) (w := w) (base := base) T_plain_power z
  have D_letters_in := d_letters_in (P := P) (w := w) (base := base) T_letters_in z D_two_steps
  have D_inverse := d_inverse (P := P) (w := w) (base := base) T_inverse z
  have D_line_noughts := d_line_noughts (P := P) (w := w) (base := base) T_line_noughts z
  have D_line_nought := d_line_nought (P := P) (w := w) (base := base) T_line_nought z D_inverse
  have D_square_noughts := d_square_noughts (P := P) (w := w) (base := base) T_square_noughts z D_line_nought D_line_noughts
  have D_small_noughts := d_small_noughts (P := P) (w := w) (base := base) T_small_noughts z D_line_noughts D_square_noughts
  have D_parted := d_parted (P := P) (w := w) (base := base) T_parted z D_folded
  have D_noughts_in := d_noughts_in (P := P) (w := w) (base := base) T_noughts_in z D_letters_in D_parted D_plain_power D_small_noughts
  have D_nought_points := d_nought_points (P := P) (w := w) (base := base) T_nought_points z D_noughts_in
  have D__law_deal := d__law_deal (P := P) (w := w) (base := base) T__law_deal z
  have D__law_any := d__law_any (P := P) (w := w) (base := base) T__law_any z
  have D__law_of := d__law_of (P := P) (w := w) (base := base) T__law_of z D__law_any
  have D__law_prime := d__law_prime (P := P) (w := w) (base := base) T__law_prime z D__law_of
  have D__law_residue := d__law_residue (P := P) (w := w) (base := base) T__law_residue z D__law_any
  have D__law_residues := d__law_residues (P := P) (w := w) (base := base) T__law_residues z D__law_residue
  have D__law_same := d__law_same (P := P) (w := w) (base := base) T__law_same z
  have D__law_all := d__law_all (P := P) (w := w) (base := base) T__law_all z D__law_same
  have D__law_twos := d__law_twos (P := P) (w := w) (base := base) T__law_twos z
  have D__law_letters := d__law_letters (P := P) (w := w) (base := base) T__law_letters z
  have D__law_line := d__law_line (P := P) (w := w) (base := base) T__law_line z
  have D__law_power := d__law_power (P := P) (w := w) (base := base) T__law_power z
  have D__law_points := d__law_points (P := P) (w := w) (base := base) T__law_points z D__law_letters D__law_line
  have D__law_square := d__law_square (P := P) (w := w) (base := base) T__law_square z
  have D__law_noughts := d__law_noughts (P := P) (w := w) (base := base) T__law_noughts z D__law_letters D__law_points D__law_power D__law_square
  have D__law_countable := d__law_countable (P := P) (w := w) (base := base) T__law_countable z D__law_letters D__law_power
  have D__law_one_alone := d__law_one_alone (P := P) (w := w) (base := base) T__law_one_alone z D__law_any
  have D__law_difference := d__law_difference (P := P) (w := w) (base := base) T__law_difference z D__law_any D__law_countable D__law_one_alone D__law_residues
  have D__law_row_counted := d__law_row_counted (P := P) (w := w) (base := base) T__law_row_counted z D__law_any D__law_difference D__law_of D__law_one_alone D__law_residues D__law_twos
  have D__law_row_of_few := d__law_row_of_few (P := P) (w := w) (base := base) T__law_row_of_few z D__law_any D__law_of D__law_residues D__law_twos
  have D_law := d_law (P := P) (w := w) (base := base) T_law z D__law_all D__law_deal D__law_noughts D__law_points D__law_prime D__law_row_counted D__law_row_of_few D_nought_points
  exact D_law
theorem fin {P : Program} {w : World} {K : PySem.W.Frag} {mg : Str → Option Value} {h : Heap} {fa : Addr} (X : K.In h) (G : h.Ns mainGlobals mg) (hmg : mg "law" = some (.ref fa))
    (T_two_steps : Txt K mg "two_steps" "two_steps" s_two_steps ["number"]) (T_folded : Txt K mg "folded" "folded" s_folded ["p", "row", "letter"]) (T_plain_power : Txt K mg "plain_power" "plain_power" s_plain_power ["number", "often"]) (T_letters_in : Txt K mg "letters_in" "letters_in" s_letters_in ["row"]) (T_inverse : Txt K mg "inverse" "inverse" s_inverse ["p", "one"]) (T_line_noughts : Txt K mg "line_noughts" "line_noughts" s_line_noughts ["p", "low", "high"]) (T_line_nought : Txt K mg "line_nought" "line_nought" s_line_nought ["p", "low", "high"]) (T_square_noughts : Txt K mg "square_noughts" "square_noughts" s_square_noughts ["p", "row"]) (T_small_noughts : Txt K mg "small_noughts" "small_noughts" s_small_noughts ["p", "row"]) (T_parted : Txt K mg "parted" "parted" s_parted ["p", "row"]) (T_noughts_in : Txt K mg "noughts_in" "noughts_in" s_noughts_in ["p", "row"]) (T_nought_points : Txt K mg "nought_points" "nought_points" s_nought_points ["p", "row"]) (T__law_deal : Txt K mg "_law_deal" "_law_deal" s__law_deal ["script", "salt"]) (T__law_any : Txt K mg "_law_any" "_law_any" s__law_any ["deal", "bound"]) (T__law_of : Txt K mg "_law_of" "_law_of" s__law_of ["deal", "some"]) (T__law_prime : Txt K mg "_law_prime" "_law_prime" s__law_prime ["deal"]) (T__law_residue : Txt K mg "_law_residue" "_law_residue" s__law_residue ["deal", "p"]) (T__law_residues : Txt K mg "_law_residues" "_law_residues" s__law_residues ["deal", "p", "many"]) (T__law_same : Txt K mg "_law_same" "_law_same" s__law_same ["told", "due"]) (T__law_all : Txt K mg "_law_all" "_law_all" s__law_all ["pairs"]) (T__law_twos : Txt K mg "_law_twos" "_law_twos" s__law_twos ["many"]) (T__law_letters : Txt K mg "_law_letters" "_law_letters" s__law_letters ["many"]) (T__law_line : Txt K mg "_law_line" "_law_line" s__law_line ["p", "low", "high", "at"]) (T__law_power : Txt K mg "_law_power" "_law_power" s__law_power ["number", "often"]) (T__law_points : Txt K mg "_law_points" "_law_points" s__law_points ["p", "row"]) (T__law_square : Txt K mg "_law_square" "_law_square" s__law_square ["p", "row"]) (T__law_noughts : Txt K mg "_law_noughts" "_law_noughts" s__law_noughts ["p", "row"]) (T__law_countable : Txt K mg "_law_countable" "_law_countable" s__law_countable ["p", "many"]) (T__law_one_alone : Txt K mg "_law_one_alone" "_law_one_alone" s__law_one_alone ["deal", "p", "many"]) (T__law_difference : Txt K mg "_law_difference" "_law_difference" s__law_difference ["deal", "p", "many"]) (T__law_row_counted : Txt K mg "_law_row_counted" "_law_row_counted" s__law_row_counted ["deal", "p"]) (T__law_row_of_few : Txt K mg "_law_row_of_few" "_law_row_of_few" s__law_row_of_few ["deal"]) (T_law : Txt K mg "law" "law" s_law ["script"])
    (z_abs : mg "abs" = none) (z_bool : mg "bool" = none) (z_int : mg "int" = none) (z_isinstance : mg "isinstance" = none) (z_len : mg "len" = none) (z_list : mg "list" = none) (z_min : mg "min" = none) (z_range : mg "range" = none) (z_str : mg "str" = none) (z_sum : mg "sum" = none) (z_tuple : mg "tuple" = none) :
    ∃ fd : FuncData, (∀ (s : Shared) (v : Value), BindsTo s fd ⟨[v], []⟩ [("script", v)]) ∧ ∀ base : Heap, K.In base → base.Ns mainGlobals mg → FnOk P w K mg base CX0 14 fa fd ["script"] (spScr K) :=
  Sm.main_of T_law hmg (fun _ _ _ _ _ _ _ _ => rfl) (fun base _ _ => all ⟨z_abs, z_bool, z_int, z_isinstance, z_len, z_list, z_min, z_range, z_str, z_sum, z_tuple⟩ T_two_steps T_folded T_plain_power T_letters_in T_inverse T_line_noughts T_line_nought T_square_noughts T_small_noughts T_parted T_noughts_in T_nought_points T__law_deal T__law_any T__law_of T__law_prime T__law_residue T__law_residues T__law_same T__law_all T__law_twos T__law_letters T__law_line T__law_power T__law_points T__law_square T__law_noughts T__law_countable T__law_one_alone T__law_difference T__law_row_counted T__law_row_of_few T_law) law_true
end K60
open PySem PySem.W PyProof.Rows in
set_option maxRecDepth 100000 in
set_option maxHeartbeats 0 in
theorem PySem.Challenge.cw_shortpapers_k60_noughts_of_spread_rows_c_holds : PySem.Challenge.rw_shortpapers_k60_noughts_of_spread_rows_c.Holds := by
  w_on; o_law; k_head; (case hw => w_witness2)
  k_fill
  refine K60.walk (l := PySem.Challenge.rw_shortpapers_k60_noughts_of_spread_rows_c) rfl rfl (fun w h Y => PySem.W.kIn_of Y) ?F
  case F =>
    intro w mg fa h KX G hmg
    refine' K60.fin KX G hmg ?T_two_steps ?T_folded ?T_plain_power ?T_letters_in ?T_inverse ?T_line_noughts ?T_line_nought ?T_square_noughts ?T_small_noughts ?T_parted ?T_noughts_in ?T_nought_points ?T__law_deal ?T__law_any ?T__law_of ?T__law_prime ?T__law_residue ?T__law_residues ?T__law_same ?T__law_all ?T__law_twos ?T__law_letters ?T__law_line ?T__law_power ?T__law_points ?T__law_square ?T__law_noughts ?T__law_countable ?T__law_one_alone ?T__law_difference ?T__law_row_counted ?T__law_row_of_few ?T_law ?z_abs ?z_bool ?z_int ?z_isinstance ?z_len ?z_list ?z_min ?z_range ?z_str ?z_sum ?z_tuple
    (case T_two_steps => refine' Sm.txt_of KX G ?a ?l ?c ?k ?b; (case a => k_is); (case l => k_is); (case c => k_is); (case k => k_is); (case b => exact fun _ _ _ _ _ _ us hl => match us, hl with | [_], _ => rfl))
    (case T_folded => refine' Sm.txt_of KX G ?a ?l ?c ?k ?b; (case a => k_is); (case l => k_is); (case c => k_is); (case k => k_is); (case b => exact fun _ _ _ _ _ _ us hl => match us, hl with | [_, _, _], _ => rfl))
    (case T_plain_power => refine' Sm.txt_of KX G ?a ?l ?c ?k ?b; (case a => k_is); (case l => k_is); (case c => k_is); (case k => k_is); (case b => exact fun _ _ _ _ _ _ us hl => match us, hl with | [_, _], _ => rfl))
    (case T_letters_in => refine' Sm.txt_of KX G ?a ?l ?c ?k ?b; (case a => k_is); (case l => k_is); (case c => k_is); (case k => k_is); (case b => exact fun _ _ _ _ _ _ us hl => match us, hl with | [_], _ => rfl))
    (case T_inverse => refine' Sm.txt_of KX G ?a ?l ?c ?k ?b; (case a => k_is); (case l => k_is); (case c => k_is); (case k => k_is); (case b => exact fun _ _ _ _ _ _ us hl => match us, hl with | [_, _], _ => rfl))
    (case T_line_noughts => refine' Sm.txt_of KX G ?a ?l ?c ?k ?b; (case a => k_is); (case l => k_is); (case c => k_is); (case k => k_is); (case b => exact fun _ _ _ _ _ _ us hl => match us, hl with | [_, _, _], _ => rfl))
    (case T_line_nought => refine' Sm.txt_of KX G ?a ?l ?c ?k ?b; (case a => k_is); (case l => k_is); (case c => k_is); (case k => k_is); (case b => exact fun _ _ _ _ _ _ us hl => match us, hl with | [_, _, _], _ => rfl))
    (case T_square_noughts => refine' Sm.txt_of KX G ?a ?l ?c ?k ?b; (case a => k_is); (case l => k_is); (case c => k_is); (case k => k_is); (case b => exact fun _ _ _ _ _ _ us hl => match us, hl with | [_, _], _ => rfl))
    (case T_small_noughts => refine' Sm.txt_of KX G ?a ?l ?c ?k ?b; (case a => k_is); (case l => k_is); (case c => k_is); (case k => k_is); (case b => exact fun _ _ _ _ _ _ us hl => match us, hl with | [_, _], _ => rfl))
    (case T_parted => refine' Sm.txt_of KX G ?a ?l ?c ?k ?b; (case a => k_is); (case l => k_is); (case c => k_is); (case k => k_is); (case b => exact fun _ _ _ _ _ _ us hl => match us, hl with | [_, _], _ => rfl))
    (case T_noughts_in => refine' Sm.txt_of KX G ?a ?l ?c ?k ?b; (case a => k_is); (case l => k_is); (case c => k_is); (case k => k_is); (case b => exact fun _ _ _ _ _ _ us hl => match us, hl with | [_, _], _ => rfl))
    (case T_nought_points => refine' Sm.txt_of KX G ?a ?l ?c ?k ?b; (case a => k_is); (case l => k_is); (case c => k_is); (case k => k_is); (case b => exact fun _ _ _ _ _ _ us hl => match us, hl with | [_, _], _ => rfl))
    (case T__law_deal => refine' Sm.txt_of KX G ?a ?l ?c ?k ?b; (case a => k_is); (case l => k_is); (case c => k_is); (case k => k_is); (case b => exact fun _ _ _ _ _ _ us hl => match us, hl with | [_, _], _ => rfl))
    (case T__law_any => refine' Sm.txt_of KX G ?a ?l ?c ?k ?b; (case a => k_is); (case l => k_is); (case c => k_is); (case k => k_is); (case b => exact fun _ _ _ _ _ _ us hl => match us, hl with | [_, _], _ => rfl))
    (case T__law_of => refine' Sm.txt_of KX G ?a ?l ?c ?k ?b; (case a => k_is); (case l => k_is); (case c => k_is); (case k => k_is); (case b => exact fun _ _ _ _ _ _ us hl => match us, hl with | [_, _], _ => rfl))
    (case T__law_prime => refine' Sm.txt_of KX G ?a ?l ?c ?k ?b; (case a => k_is); (case l => k_is); (case c => k_is); (case k => k_is); (case b => exact fun _ _ _ _ _ _ us hl => match us, hl with | [_], _ => rfl))
    (case T__law_residue => refine' Sm.txt_of KX G ?a ?l ?c ?k ?b; (case a => k_is); (case l => k_is); (case c => k_is); (case k => k_is); (case b => exact fun _ _ _ _ _ _ us hl => match us, hl with | [_, _], _ => rfl))
    (case T__law_residues => refine' Sm.txt_of KX G ?a ?l ?c ?k ?b; (case a => k_is); (case l => k_is); (case c => k_is); (case k => k_is); (case b => exact fun _ _ _ _ _ _ us hl => match us, hl with | [_, _, _], _ => rfl))
    (case T__law_same => refine' Sm.txt_of KX G ?a ?l ?c ?k ?b; (case a => k_is); (case l => k_is); (case c => k_is); (case k => k_is); (case b => exact fun _ _ _ _ _ _ us hl => match us, hl with | [_, _], _ => rfl))
    (case T__law_all => refine' Sm.txt_of KX G ?a ?l ?c ?k ?b; (case a => k_is); (case l => k_is); (case c => k_is); (case k => k_is); (case b => exact fun _ _ _ _ _ _ us hl => match us, hl with | [_], _ => rfl))
    (case T__law_twos => refine' Sm.txt_of KX G ?a ?l ?c ?k ?b; (case a => k_is); (case l => k_is); (case c => k_is); (case k => k_is); (case b => exact fun _ _ _ _ _ _ us hl => match us, hl with | [_], _ => rfl))
    (case T__law_letters => refine' Sm.txt_of KX G ?a ?l ?c ?k ?b; (case a => k_is); (case l => k_is); (case c => k_is); (case k => k_is); (case b => exact fun _ _ _ _ _ _ us hl => match us, hl with | [_], _ => rfl))
    (case T__law_line => refine' Sm.txt_of KX G ?a ?l ?c ?k ?b; (case a => k_is); (case l => k_is); (case c => k_is); (case k => k_is); (case b => exact fun _ _ _ _ _ _ us hl => match us, hl with | [_, _, _, _], _ => rfl))
    (case T__law_power => refine' Sm.txt_of KX G ?a ?l ?c ?k ?b; (case a => k_is); (case l => k_is); (case c => k_is); (case k => k_is); (case b => exact fun _ _ _ _ _ _ us hl => match us, hl with | [_, _], _ => rfl))
    (case T__law_points => refine' Sm.txt_of KX G ?a ?l ?c ?k ?b; (case a => k_is); (case l => k_is); (case c => k_is); (case k => k_is); (case b => exact fun _ _ _ _ _ _ us hl => match us, hl with | [_, _], _ => rfl))
    (case T__law_square => refine' Sm.txt_of KX G ?a ?l ?c ?k ?b; (case a => k_is); (case l => k_is); (case c => k_is); (case k => k_is); (case b => exact fun _ _ _ _ _ _ us hl => match us, hl with | [_, _], _ => rfl))
    (case T__law_noughts => refine' Sm.txt_of KX G ?a ?l ?c ?k ?b; (case a => k_is); (case l => k_is); (case c => k_is); (case k => k_is); (case b => exact fun _ _ _ _ _ _ us hl => match us, hl with | [_, _], _ => rfl))
    (case T__law_countable => refine' Sm.txt_of KX G ?a ?l ?c ?k ?b; (case a => k_is); (case l => k_is); (case c => k_is); (case k => k_is); (case b => exact fun _ _ _ _ _ _ us hl => match us, hl with | [_, _], _ => rfl))
    (case T__law_one_alone => refine' Sm.txt_of KX G ?a ?l ?c ?k ?b; (case a => k_is); (case l => k_is); (case c => k_is); (case k => k_is); (case b => exact fun _ _ _ _ _ _ us hl => match us, hl with | [_, _, _], _ => rfl))
    (case T__law_difference => refine' Sm.txt_of KX G ?a ?l ?c ?k ?b; (case a => k_is); (case l => k_is); (case c => k_is); (case k => k_is); (case b => exact fun _ _ _ _ _ _ us hl => match us, hl with | [_, _, _], _ => rfl))
    (case T__law_row_counted => refine' Sm.txt_of KX G ?a ?l ?c ?k ?b; (case a => k_is); (case l => k_is); (case c => k_is); (case k => k_is); (case b => exact fun _ _ _ _ _ _ us hl => match us, hl with | [_, _], _ => rfl))
    (case T__law_row_of_few => refine' Sm.txt_of KX G ?a ?l ?c ?k ?b; (case a => k_is); (case l => k_is); (case c => k_is); (case k => k_is); (case b => exact fun _ _ _ _ _ _ us hl => match us, hl with | [_], _ => rfl))
    (case T_law => refine' Sm.txt_of KX G ?a ?l ?c ?k ?b; (case a => k_is); (case l => k_is); (case c => k_is); (case k => k_is); (case b => exact fun _ _ _ _ _ _ us hl => match us, hl with | [_], _ => rfl))
    (case z_abs => refine' PySem.W.mg_none_of KX G ?z; (case z => k_is))
    (case z_bool => refine' PySem.W.mg_none_of KX G ?z; (case z => k_is))
    (case z_int => refine' PySem.W.mg_none_of KX G ?z; (case z => k_is))
    (case z_isinstance => refine' PySem.W.mg_none_of KX G ?z; (case z => k_is))
    (case z_len => refine' PySem.W.mg_none_of KX G ?z; (case z => k_is))
    (case z_list => refine' PySem.W.mg_none_of KX G ?z; (case z => k_is))
    (case z_min => refine' PySem.W.mg_none_of KX G ?z; (case z => k_is))
    (case z_range => refine' PySem.W.mg_none_of KX G ?z; (case z => k_is))
    (case z_str => refine' PySem.W.mg_none_of KX G ?z; (case z => k_is))
    (case z_sum => refine' PySem.W.mg_none_of KX G ?z; (case z => k_is))
    (case z_tuple => refine' PySem.W.mg_none_of KX G ?z; (case z => k_is))

