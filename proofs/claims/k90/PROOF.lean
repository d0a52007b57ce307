import PyProof.Rows.All
import Wide.All
import OpenK.AllK
import Wide.FinOn
import HandS.ForMost
import HandS.ForExc
import HandS.TupAny
import HandS.Style
import HandS.Conv
import HandS.More
import HandS.Deep
import HandS.Walk
import HandS.SortInts
import HandS.Zip
import HandS.ExcValue
import PyProof.ListNew
import HandS.IsInst
import HandS.Flow
import KE.KRevSl
import OpenK.KOps
import HandS.DictComp
import HandS.Finally
import HandS.Defaults
import PySem.Challenge.RW_overlooks_k90_main_lots_by_where_the_sho
set_option Elab.async false
set_option linter.all false
set_option maxRecDepth 100000
set_option maxHeartbeats 1000000
/-! The layer of owned things: data (by value), lists, dicts and instances that a frame owns, under one state. -/
namespace Ov
open PySem PySem.Spec PyProof.Rows L2

/-! ### data -/
mutual
def Da (K : PySem.W.Frag) (S : Hp) : PyData → V → Prop
  | .none, v => v = .non
  | .bool b, v => v = .bl b
  | .int i, v => v = .int i
  | .str x, v => v = .str x
  | .list ds, v => ∃ a xs, v = .ref a ∧ S a = some (.lst xs) ∧ DaL K S ds xs
  | .tuple ds, v => ∃ a xs, v = .ref a ∧ SqT K S a xs ∧ DaL K S ds xs
  | .dict _, _ => False
def DaL (K : PySem.W.Frag) (S : Hp) : List PyData → List V → Prop
  | [], xs => xs = []
  | d :: ds, xs => ∃ v vs, xs = v :: vs ∧ Da K S d v ∧ DaL K S ds vs
end

section
variable {K : PySem.W.Frag} {S S' H H' : Hp}
theorem same_t {a : Addr} {xs : List V} (e : Same S S') (h : SqT K S a xs) : SqT K S' a xs := by
  rcases h with (h | ⟨o, h⟩) | h
  · exact .inl (.inl (e _ _ h))
  · exact .inl (.inr ⟨o, e _ _ h⟩)
  · exact .inr h
mutual
theorem Da.mono (e : Same S S') : ∀ (d : PyData) (v : V), Da K S d v → Da K S' d v
  | .none, _, h => h
  | .bool _, _, h => h
  | .int _, _, h => h
  | .str _, _, h => h
  | .list ds, v, h => by
    simp only [Da] at h ⊢
    obtain ⟨a, xs, e1, e2, h⟩ := h
    exact ⟨a, xs, e1, e _ _ e2, DaL.mono e ds xs h⟩
  | .tuple ds, v, h => by
    simp only [Da] at h ⊢
    obtain ⟨a, xs, e1, e2, h⟩ := h
    exact ⟨a, xs, e1, same_t e e2, DaL.mono e ds xs h⟩
  | .dict _, _, h => h
theorem DaL.mono (e : Same S S') : ∀ (ds : List PyData) (xs : List V), DaL K S ds xs → DaL K S' ds xs
  | [], _, h => h
  | d :: ds, xs, h => by
    simp only [DaL] at h ⊢
    obtain ⟨v, vs, e1, h1, h2⟩ := h
    exact ⟨v, vs, e1, Da.mono e d v h1, DaL.mono e ds vs h2⟩
end
theorem DaL.nil : DaL K S [] [] := by simp [DaL]
theorem DaL.cons {d : PyData} {ds : List PyData} {v : V} {vs : List V} (h : Da K S d v) (t : DaL K S ds vs) : DaL K S (d :: ds) (v :: vs) := by
  simp only [DaL]
  exact ⟨v, vs, rfl, h, t⟩
theorem DaL.len : ∀ {ds : List PyData} {xs : List V}, DaL K S ds xs → xs.length = ds.length
  | [], xs, h => by simp [DaL] at h; simp [h]
  | d :: ds, xs, h => by
    simp only [DaL] at h
    obtain ⟨v, vs, rfl, _, h2⟩ := h
    simp [DaL.len h2]
theorem DaL.get : ∀ {ds : List PyData} {xs : List V} {i : Nat} {d : PyData}, DaL K S ds xs → ds[i]? = some d → ∃ v, xs[i]? = some v ∧ Da K S d v
  | [], _, _, _, _, e => by simp at e
  | c :: ds, xs, 0, d, h, e => by
    simp only [DaL] at h
    obtain ⟨v, vs, rfl, h1, _⟩ := h
    simp at e
    subst e
    exact ⟨v, rfl, h1⟩
  | c :: ds, xs, i + 1, d, h, e => by
    simp only [DaL] at h
    obtain ⟨v, vs, rfl, _, h2⟩ := h
    obtain ⟨u, e1, e2⟩ := DaL.get (i := i) h2 (by simpa using e)
    exact ⟨u, by simpa using e1, e2⟩
theorem DaL.get' {ds : List PyData} {xs : List V} {i : Nat} {v : V} (h : DaL K S ds xs) (e : xs[i]? = some v) : ∃ d, ds[i]? = some d ∧ Da K S d v := by
  have hl := h.len
  obtain ⟨hi, _⟩ := List.getElem?_eq_some_iff.mp e
  have e1 : ds[i]? = some ds[i] := List.getElem?_eq_getElem (by omega)
  obtain ⟨u, e2, e3⟩ := h.get e1
  rw [e] at e2
  cases e2
  exact ⟨_, e1, e3⟩
theorem DaL.append : ∀ {ds es : List PyData} {xs ys : List V}, DaL K S ds xs → DaL K S es ys → DaL K S (ds ++ es) (xs ++ ys)
  | [], _, _, _, h, t => by
    simp [DaL] at h
    subst h
    exact t
  | d :: ds, es, xs, ys, h, t => by
    simp only [DaL] at h
    obtain ⟨v, vs, rfl, h1, h2⟩ := h
    exact DaL.cons h1 (DaL.append h2 t)
theorem DaL.take : ∀ {ds : List PyData} {xs : List V} (n : Nat), DaL K S ds xs → DaL K S (ds.take n) (xs.take n)
  | _, _, 0, _ => by simp [DaL]
  | [], xs, n + 1, h => by
    simp [DaL] at h
    subst h
    simp [DaL]
  | d :: ds, xs, n + 1, h => by
    simp only [DaL] at h
    obtain ⟨v, vs, rfl, h1, h2⟩ := h
    exact DaL.cons h1 (DaL.take n h2)
theorem DaL.drop : ∀ {ds : List PyData} {xs : List V} (n : Nat), DaL K S ds xs → DaL K S (ds.drop n) (xs.drop n)
  | _, _, 0, h => h
  | [], xs, n + 1, h => by
    simp [DaL] at h
    subst h
    simp [DaL]
  | d :: ds, xs, n + 1, h => by
    simp only [DaL] at h
    obtain ⟨v, vs, rfl, h1, h2⟩ := h
    exact DaL.drop n h2
theorem DaL.set {d : PyData} {v : V} (hd : Da K S d v) : ∀ {ds : List PyData} {xs : List V} (i : Nat), DaL K S ds xs → DaL K S (ds.set i d) (xs.set i v)
  | [], xs, i, h => by
    simp [DaL] at h
    subst h
    simp [DaL]
  | c :: ds, xs, 0, h => by
    simp only [DaL] at h
    obtain ⟨u, vs, rfl, h1, h2⟩ := h
    exact DaL.cons hd h2
  | c :: ds, xs, i + 1, h => by
    simp only [DaL] at h
    obtain ⟨u, vs, rfl, h1, h2⟩ := h
    exact DaL.cons h1 (DaL.set hd i h2)
theorem DaL.reverse {ds : List PyData} {xs : List V} (h : DaL K S ds xs) : DaL K S ds.reverse xs.reverse := by
  induction ds generalizing xs with
  | nil => simp [DaL] at h; subst h; simp [DaL]
  | cons d ds ih =>
    simp only [DaL] at h
    obtain ⟨u, vs, rfl, h1, h2⟩ := h
    simp only [List.reverse_cons]
    exact (ih h2).append (DaL.cons h1 DaL.nil)
theorem DaL.erase {ds : List PyData} {xs : List V} (i : Nat) (h : DaL K S ds xs) : DaL K S (ds.eraseIdx i) (xs.eraseIdx i) := by
  rw [List.eraseIdx_eq_take_drop_succ, List.eraseIdx_eq_take_drop_succ]
  exact (h.take _).append (h.drop _)
theorem DaL.ints : ∀ {ns : List Int} {xs : List V}, DaL K S (ns.map PyData.int) xs → xs = ns.map V.int
  | [], xs, h => by simp [DaL] at h; simp [h]
  | n :: ns, xs, h => by
    simp only [List.map_cons, DaL, Da] at h
    obtain ⟨v, vs, rfl, rfl, h⟩ := h
    rw [DaL.ints h]
    rfl
theorem DaL.of_ints : ∀ (ns : List Int), DaL K S (ns.map PyData.int) (ns.map V.int)
  | [] => DaL.nil
  | n :: ns => DaL.cons (by simp [Da]) (DaL.of_ints ns)
theorem DaL.bls : ∀ {bs : List Bool} {xs : List V}, DaL K S (bs.map PyData.bool) xs → xs = bs.map V.bl
  | [], xs, h => by simp [DaL] at h; simp [h]
  | n :: ns, xs, h => by
    simp only [List.map_cons, DaL, Da] at h
    obtain ⟨v, vs, rfl, rfl, h⟩ := h
    rw [DaL.bls h]
    rfl
theorem DaL.strs : ∀ {bs : List Str} {xs : List V}, DaL K S (bs.map PyData.str) xs → xs = bs.map V.str
  | [], xs, h => by simp [DaL] at h; simp [h]
  | n :: ns, xs, h => by
    simp only [List.map_cons, DaL, Da] at h
    obtain ⟨v, vs, rfl, rfl, h⟩ := h
    rw [DaL.strs h]
    rfl
mutual
theorem Da.dp (e : Same S H) : ∀ (d : PyData) (v : V), Da K S d v → Dp K H v d
  | .none, _, h => by simp only [Da] at h; subst h; exact .non
  | .bool _, _, h => by simp only [Da] at h; subst h; exact .bl _
  | .int _, _, h => by simp only [Da] at h; subst h; exact .int _
  | .str _, _, h => by simp only [Da] at h; subst h; exact .str _
  | .list ds, v, h => by
    simp only [Da] at h
    obtain ⟨a, xs, rfl, e2, h⟩ := h
    exact .lst (SqL.of (e _ _ e2)) (DaL.dp e ds xs h)
  | .tuple ds, v, h => by
    simp only [Da] at h
    obtain ⟨a, xs, rfl, e2, h⟩ := h
    exact .tup (same_t e e2) (DaL.dp e ds xs h)
  | .dict _, _, h => by simp only [Da] at h
theorem DaL.dp (e : Same S H) : ∀ (ds : List PyData) (xs : List V), DaL K S ds xs → DpAll K H xs ds
  | [], _, h => by simp only [DaL] at h; subst h; exact .nil
  | d :: ds, xs, h => by
    simp only [DaL] at h
    obtain ⟨v, vs, rfl, h1, h2⟩ := h
    exact .cons (Da.dp e d v h1) (DaL.dp e ds vs h2)
end
mutual
def hard : PyData → Bool
  | .tuple ds => hardL ds
  | .list _ => false
  | .dict _ => false
  | _ => true
def hardL : List PyData → Bool
  | [] => true
  | d :: ds => hard d && hardL ds
end
end

/-! ### kinds of what a place holds, with what it owns -/
inductive Kd where
  /-- data -/
  | dat (d : PyData)
  /-- a list of data that is owned -/
  | ml (ds : List PyData)
  /-- dicts of data that are owned -/
  | dk (kvs : List (Key × PyData))
  | dt (kvs : List (List Key × PyData))
  /-- an instance of the class at C, its attributes by name -/
  | ob (C : Addr) (ns : List Str) (ks : List Kd)
  /-- that very value -/
  | pin (v : V) (k : Kd)
  /-- the script -/
  | scr (ns : List Int)
  /-- nothing is known of it -/
  | any
mutual
def Ho (K : PySem.W.Frag) (H S : Hp) : Kd → V → List Addr → Prop
  | .dat d, v, f => f = [] ∧ Da K S d v
  | .ml ds, v, f => ∃ p xs, v = .ref p ∧ f = [p] ∧ H p = some (.lst xs) ∧ DaL K S ds xs
  | .dk kvs, v, f => ∃ p ws, v = .ref p ∧ f = [p] ∧ H p = some (.dK ws) ∧ ws.map (·.1) = kvs.map (·.1) ∧ DaL K S (kvs.map (·.2)) (ws.map (·.2))
  | .dt kvs, v, f => ∃ p ws, v = .ref p ∧ f = [p] ∧ H p = some (.dT ws) ∧ ws.map (·.1) = kvs.map (·.1) ∧ DaL K S (kvs.map (·.2)) (ws.map (·.2))
  | .ob C ns ks, v, f => ∃ x dx vs f', v = .ref x ∧ f = x :: dx :: f' ∧ H x = some (.ins C dx (ns.zip vs)) ∧ H dx = some (.own x) ∧ ns.length = vs.length ∧ HoL K H S ks vs f'
  | .pin u k, v, f => v = u ∧ Ho K H S k v f
  | .scr ns, v, f => ∃ a, v = .ref a ∧ f = [] ∧ SqL K S a (ns.map V.int)
  | .any, _, f => f = []
def HoL (K : PySem.W.Frag) (H S : Hp) : List Kd → List V → List Addr → Prop
  | [], vs, f => vs = [] ∧ f = []
  | k :: ks, vs, f => ∃ v vs' f1 f2, vs = v :: vs' ∧ f = f1 ++ f2 ∧ Ho K H S k v f1 ∧ HoL K H S ks vs' f2
end
section
variable {K : PySem.W.Frag} {S S' H H' : Hp}
theorem seq_same {a : Addr} {xs : List V} (e : Same S S') (h : SqL K S a xs) : SqL K S' a xs := e.seq h
mutual
theorem Ho.mono (e : Same S S') : ∀ (k : Kd) (v : V) (f : List Addr), (∀ b ∈ f, H' b = H b) → Ho K H S k v f → Ho K H' S' k v f
  | .dat d, v, f, _, h => by
    simp only [Ho] at h ⊢
    exact ⟨h.1, Da.mono e d v h.2⟩
  | .ml ds, v, f, g, h => by
    simp only [Ho] at h ⊢
    obtain ⟨p, xs, e1, e2, e3, h⟩ := h
    exact ⟨p, xs, e1, e2, (g p (by rw [e2]; exact List.mem_cons_self)).trans e3, DaL.mono e ds xs h⟩
  | .dk kvs, v, f, g, h => by
    simp only [Ho] at h ⊢
    obtain ⟨p, ws, e1, e2, e3, e4, h⟩ := h
    exact ⟨p, ws, e1, e2, (g p (by rw [e2]; exact List.mem_cons_self)).trans e3, e4, DaL.mono e _ _ h⟩
  | .dt kvs, v, f, g, h => by
    simp only [Ho] at h ⊢
    obtain ⟨p, ws, e1, e2, e3, e4, h⟩ := h
    exact ⟨p, ws, e1, e2, (g p (by rw [e2]; exact List.mem_cons_self)).trans e3, e4, DaL.mono e _ _ h⟩
  | .ob C ns ks, v, f, g, h => by
    simp only [Ho] at h ⊢
    obtain ⟨x, dx, vs, f', e1, e2, e3, e4, e5, h⟩ := h
    refine ⟨x, dx, vs, f', e1, e2, (g x (by rw [e2]; exact List.mem_cons_self)).trans e3, (g dx (by rw [e2]; simp)).trans e4, e5, HoL.mono e ks vs f' (fun b hb => g b (by rw [e2]; simp [hb])) h⟩
  | .pin u k, v, f, g, h => by
    simp only [Ho] at h ⊢
    exact ⟨h.1, Ho.mono e k v f g h.2⟩
  | .scr ns, v, f, _, h => by
    simp only [Ho] at h ⊢
    obtain ⟨a, e1, e2, h⟩ := h
    exact ⟨a, e1, e2, e.seq h⟩
  | .any, v, f, _, h => by
    simp only [Ho] at h ⊢
    exact h
theorem HoL.mono (e : Same S S') : ∀ (ks : List Kd) (vs : List V) (f : List Addr), (∀ b ∈ f, H' b = H b) → HoL K H S ks vs f → HoL K H' S' ks vs f
  | [], vs, f, _, h => by
    simp only [HoL] at h ⊢
    exact h
  | k :: ks, vs, f, g, h => by
    simp only [HoL] at h ⊢
    obtain ⟨v, vs', f1, f2, e1, e2, h1, h2⟩ := h
    exact ⟨v, vs', f1, f2, e1, e2, Ho.mono e k v f1 (fun b hb => g b (by rw [e2]; simp [hb])) h1, HoL.mono e ks vs' f2 (fun b hb => g b (by rw [e2]; simp [hb])) h2⟩
end
theorem HoL.nil : HoL K H S [] [] [] := by simp [HoL]
theorem HoL.cons {k : Kd} {ks : List Kd} {v : V} {vs : List V} {f1 f2 : List Addr} (h : Ho K H S k v f1) (t : HoL K H S ks vs f2) : HoL K H S (k :: ks) (v :: vs) (f1 ++ f2) := by
  simp only [HoL]
  exact ⟨v, vs, f1, f2, rfl, rfl, h, t⟩
end
abbrev En2 := List (Kd × V)
/-- owned entries, with their whole footprint -/
inductive SL (K : PySem.W.Frag) (H S : Hp) : En2 → List Addr → Prop
  | nil : SL K H S [] []
  | cons {k : Kd} {v : V} {L : En2} {f1 f2 : List Addr} : Ho K H S k v f1 → SL K H S L f2 → SL K H S ((k, v) :: L) (f1 ++ f2)
section
variable {K : PySem.W.Frag} {S S' H H' : Hp}
theorem SL.mono (e : Same S S') {L : En2} {f : List Addr} (h : SL K H S L f) : (∀ b ∈ f, H' b = H b) → SL K H' S' L f := by
  induction h with
  | nil => intro _; exact .nil
  | cons h1 _ ih => intro g; exact .cons (Ho.mono e _ _ _ (fun b hb => g b (by simp [hb])) h1) (ih fun b hb => g b (by simp [hb]))
theorem SL.perm {L L' : En2} (p : L.Perm L') : ∀ {f : List Addr}, SL K H S L f → ∃ f', f.Perm f' ∧ SL K H S L' f' := by
  induction p with
  | nil => intro f h; exact ⟨f, .refl _, h⟩
  | cons x _ ih =>
    intro f h
    cases h with
    | cons h1 h2 =>
      obtain ⟨f', q, h'⟩ := ih h2
      exact ⟨_, q.append_left _, .cons h1 h'⟩
  | swap x y l =>
    intro f h
    cases h with
    | cons h1 h2 =>
      cases h2 with
      | cons h3 h4 =>
        rename_i f1 _ _ f2 f3
        refine ⟨f2 ++ (f1 ++ f3), ?_, .cons h3 (.cons h1 h4)⟩
        rw [← List.append_assoc, ← List.append_assoc]
        exact List.perm_append_comm.append_right _
  | trans _ _ ih1 ih2 =>
    intro f h
    obtain ⟨f1, q1, h1⟩ := ih1 h
    obtain ⟨f2, q2, h2⟩ := ih2 h1
    exact ⟨f2, q1.trans q2, h2⟩
theorem SL.append {L L' : En2} {f f' : List Addr} (h : SL K H S L f) (h' : SL K H S L' f') : SL K H S (L ++ L') (f ++ f') := by
  induction h with
  | nil => exact h'
  | cons h1 _ ih =>
    rw [List.append_assoc]
    exact .cons h1 ih
theorem SL.split {L L' : En2} : ∀ {f : List Addr}, SL K H S (L ++ L') f → ∃ f1 f2, f = f1 ++ f2 ∧ SL K H S L f1 ∧ SL K H S L' f2 := by
  induction L with
  | nil => intro f h; exact ⟨[], f, rfl, .nil, h⟩
  | cons x L ih =>
    intro f h
    cases h with
    | cons h1 h2 =>
      obtain ⟨f1, f2, rfl, h3, h4⟩ := ih h2
      exact ⟨_, f2, (List.append_assoc _ _ _).symm, .cons h1 h3, h4⟩
theorem SL.hol {L : En2} {f : List Addr} (h : SL K H S L f) : HoL K H S (L.map (·.1)) (L.map (·.2)) f := by
  induction h with
  | nil => exact HoL.nil
  | cons h1 _ ih => exact HoL.cons h1 ih
theorem SL.of_hol : ∀ {ks : List Kd} {vs : List V} {f : List Addr}, HoL K H S ks vs f → SL K H S (ks.zip vs) f ∧ ks.length = vs.length
  | [], vs, f, h => by
    simp only [HoL] at h
    obtain ⟨rfl, rfl⟩ := h
    exact ⟨.nil, rfl⟩
  | k :: ks, vs, f, h => by
    simp only [HoL] at h
    obtain ⟨v, vs', f1, f2, rfl, rfl, h1, h2⟩ := h
    obtain ⟨h3, h4⟩ := SL.of_hol h2
    exact ⟨.cons h1 h3, by simp [h4]⟩
theorem SL.to_hol : ∀ {ks : List Kd} {vs : List V} {f : List Addr}, ks.length = vs.length → SL K H S (ks.zip vs) f → HoL K H S ks vs f
  | [], [], f, _, h => by cases h; exact HoL.nil
  | k :: ks, v :: vs, f, e, h => by
    cases h with
    | cons h1 h2 => exact HoL.cons h1 (SL.to_hol (by simpa using e) h2)
  | [], _ :: _, _, e, _ => by simp at e
  | _ :: _, [], _, e, _ => by simp at e
end

theorem zip_inj : ∀ {ns : List Str} {us vs : List V}, ns.length = us.length → ns.length = vs.length → ns.zip us = ns.zip vs → us = vs
  | [], [], [], _, _, _ => rfl
  | n :: ns, u :: us, v :: vs, h1, h2, h => by
    simp only [List.zip_cons_cons, List.cons.injEq, Prod.mk.injEq, true_and] at h
    rw [h.1, zip_inj (by simpa using h1) (by simpa using h2) h.2]
  | [], _ :: _, _, h, _, _ => by simp at h
  | [], _, _ :: _, _, h, _ => by simp at h
  | _ :: _, [], _, h, _, _ => by simp at h
  | _ :: _, _, [], _, h, _ => by simp at h
section
variable {K : PySem.W.Frag} {S S' H : Hp}
mutual
theorem Ho.fp : ∀ (k : Kd) (v : V) (f f' : List Addr), Ho K H S k v f → Ho K H S' k v f' → f = f'
  | .dat d, v, f, f', h, h' => by
    simp only [Ho] at h h'
    rw [h.1, h'.1]
  | .ml ds, v, f, f', h, h' => by
    simp only [Ho] at h h'
    obtain ⟨p, _, rfl, e, _⟩ := h
    obtain ⟨q, _, e', e'', _⟩ := h'
    cases e'
    rw [e, e'']
  | .dk kvs, v, f, f', h, h' => by
    simp only [Ho] at h h'
    obtain ⟨p, _, rfl, e, _⟩ := h
    obtain ⟨q, _, e', e'', _⟩ := h'
    cases e'
    rw [e, e'']
  | .dt kvs, v, f, f', h, h' => by
    simp only [Ho] at h h'
    obtain ⟨p, _, rfl, e, _⟩ := h
    obtain ⟨q, _, e', e'', _⟩ := h'
    cases e'
    rw [e, e'']
  | .ob C ns ks, v, f, f', h, h' => by
    simp only [Ho] at h h'
    obtain ⟨x, dx, vs, g, rfl, e, h1, h2, h3, h4⟩ := h
    obtain ⟨x', dx', vs', g', e0, e', h1', h2', h3', h4'⟩ := h'
    cases e0
    rw [h1] at h1'
    have q := Option.some.inj h1'
    injection q with q1 q2 q3
    subst q2
    have q4 := zip_inj h3 h3' q3
    subst q4
    rw [e, e', HoL.fp ks vs g g' h4 h4']
  | .pin u k, v, f, f', h, h' => by
    simp only [Ho] at h h'
    exact Ho.fp k v f f' h.2 h'.2
  | .scr ns, v, f, f', h, h' => by
    simp only [Ho] at h h'
    obtain ⟨_, _, e, _⟩ := h
    obtain ⟨_, _, e', _⟩ := h'
    rw [e, e']
  | .any, v, f, f', h, h' => by
    simp only [Ho] at h h'
    rw [h, h']
theorem HoL.fp : ∀ (ks : List Kd) (vs : List V) (f f' : List Addr), HoL K H S ks vs f → HoL K H S' ks vs f' → f = f'
  | [], vs, f, f', h, h' => by
    simp only [HoL] at h h'
    rw [h.2, h'.2]
  | k :: ks, vs, f, f', h, h' => by
    simp only [HoL] at h h'
    obtain ⟨v, vs', f1, f2, rfl, rfl, h1, h2⟩ := h
    obtain ⟨v', vs'', f1', f2', e, rfl, h1', h2'⟩ := h'
    cases e
    rw [Ho.fp k v f1 f1' h1 h1', HoL.fp ks vs' f2 f2' h2 h2']
end
theorem SL.fp : ∀ {L : En2} {f f' : List Addr}, SL K H S L f → SL K H S' L f' → f = f'
  | _, _, _, .nil, .nil => rfl
  | _, _, _, .cons h1 h2, .cons h1' h2' => by rw [Ho.fp _ _ _ _ h1 h1', SL.fp h2 h2']
end

/-! ### the state -/
/-- how a def was entered: the heap without what may be written, its steady part -/
structure En where
  H0 : Hp
  S0 : Hp
structure Os (K : PySem.W.Frag) (e : En) (L : En2) (H S : Hp) : Prop where
  same : Same S H
  tups : ∀ b xs, H b = some (.tup xs) → S b = some (.tup xs)
  old : Same e.H0 H
  oldS : Same e.S0 S
  grow : ∀ b, S b ≠ none → e.S0 b ≠ none ∨ e.H0 b = none
  own : ∃ f, SL K H S L f ∧ f.Nodup ∧ ∀ b ∈ f, S b = none ∧ H b ≠ none ∧ e.H0 b = none
section
variable {K : PySem.W.Frag} {e : En} {L L' : En2} {S S' H H' : Hp}
theorem Os.perm (x : Os K e L H S) (p : L.Perm L') : Os K e L' H S := by
  obtain ⟨f, h, nd, hf⟩ := x.own
  obtain ⟨f', q, h'⟩ := h.perm p
  exact ⟨x.same, x.tups, x.old, x.oldS, x.grow, f', h', q.nodup_iff.mp nd, fun b hb => hf b (q.mem_iff.mpr hb)⟩
theorem Os.drop {y : Kd × V} (x : Os K e (y :: L) H S) : Os K e L H S := by
  obtain ⟨f, h, nd, hf⟩ := x.own
  cases h with
  | cons h1 h2 => exact ⟨x.same, x.tups, x.old, x.oldS, x.grow, _, h2, nd.sublist (List.sublist_append_right _ _), fun b hb => hf b (by simp [hb])⟩
theorem Os.drops : ∀ {M : En2}, Os K e (M ++ L) H S → Os K e L H S
  | [], x => x
  | _ :: M, x => Os.drops (M := M) x.drop
theorem Os.push {d : PyData} {v : V} (x : Os K e L H S) (h : Da K S d v) : Os K e ((.dat d, v) :: L) H S := by
  obtain ⟨f, h0, nd, hf⟩ := x.own
  exact ⟨x.same, x.tups, x.old, x.oldS, x.grow, _, .cons (f1 := []) (by simp only [Ho]; exact ⟨trivial, h⟩) h0, nd, hf⟩
theorem Os.any {v : V} (x : Os K e L H S) : Os K e ((.any, v) :: L) H S := by
  obtain ⟨f, h0, nd, hf⟩ := x.own
  exact ⟨x.same, x.tups, x.old, x.oldS, x.grow, _, .cons (f1 := []) (by simp only [Ho]) h0, nd, hf⟩
theorem Os.scr {ns : List Int} {v : V} {a : Addr} (x : Os K e L H S) (ev : v = .ref a) (h : SqL K S a (ns.map V.int)) : Os K e ((.scr ns, v) :: L) H S := by
  obtain ⟨f, h0, nd, hf⟩ := x.own
  exact ⟨x.same, x.tups, x.old, x.oldS, x.grow, _, .cons (f1 := []) (by simp only [Ho]; exact ⟨a, ev, trivial, h⟩) h0, nd, hf⟩
theorem Os.dat {d : PyData} {v : V} (x : Os K e ((.dat d, v) :: L) H S) : Da K S d v := by
  obtain ⟨f, h, _, _⟩ := x.own
  cases h with
  | cons h1 h2 =>
    simp only [Ho] at h1
    exact h1.2
theorem Os.dats : ∀ {ds : List PyData} {vs : List V}, ds.length = vs.length → Os K e ((ds.map Kd.dat).zip vs ++ L) H S → DaL K S ds vs
  | [], [], _, _ => DaL.nil
  | d :: ds, v :: vs, e, x => DaL.cons x.dat (Os.dats (by simpa using e) x.drop)
  | [], _ :: _, e, _ => by simp at e
  | _ :: _, [], e, _ => by simp at e
theorem Os.pushs : ∀ {ds : List PyData} {vs : List V}, DaL K S ds vs → Os K e L H S → Os K e ((ds.map Kd.dat).zip vs ++ L) H S
  | [], vs, h, x => by
    simp only [DaL] at h
    subst h
    exact x
  | d :: ds, vs, h, x => by
    simp only [DaL] at h
    obtain ⟨v, vs', rfl, h1, h2⟩ := h
    exact (Os.pushs h2 x).push h1
/-- one entry's facts change while H, S stay -/
theorem Os.head {k k' : Kd} {v : V} (x : Os K e ((k, v) :: L) H S) (g : ∀ f, Ho K H S k v f → Ho K H S k' v f) : Os K e ((k', v) :: L) H S := by
  obtain ⟨f, h, nd, hf⟩ := x.own
  cases h with
  | cons h1 h2 => exact ⟨x.same, x.tups, x.old, x.oldS, x.grow, _, .cons (g _ h1) h2, nd, hf⟩
theorem Os.ho {k : Kd} {v : V} (x : Os K e ((k, v) :: L) H S) : ∃ f, Ho K H S k v f := by
  obtain ⟨f, h, nd, hf⟩ := x.own
  cases h with
  | cons h1 h2 => exact ⟨_, h1⟩
theorem Os.fresh0 (x : Os K e L H S) {p : Addr} (h : H p = none) : e.H0 p = none := x.old.free h
theorem Os.freshS (x : Os K e L H S) {p : Addr} (h : H p = none) : S p = none := x.same.free h
theorem upd_some {H : Hp} {p b : Addr} {o : HO} (h : H b ≠ none) : upd H p o b ≠ none := by
  unfold upd
  split
  · intro z; cases z
  · exact h
theorem same_upd {H : Hp} {p : Addr} {o : HO} (h : H p = none) : Same H (upd H p o) := fun b u q => by
  rw [upd_ne (ne_of_none q h)]
  exact q
/-- a new object that is data -/
theorem Os.newS {p : Addr} {o : HO} (x : Os K e L H S) (hp : H p = none) : Os K e L (upd H p o) (upd S p o) := by
  obtain ⟨f, h, nd, hf⟩ := x.own
  have sp := x.freshS hp
  have hpf : ∀ b ∈ f, b ≠ p := fun b hb z => (hf b hb).2.1 (by rw [z]; exact hp)
  refine ⟨fun b u q => ?_, fun b xs q => ?_, x.old.trans (same_upd hp), x.oldS.trans (same_upd sp), fun b q => ?_, f, h.mono (same_upd sp) fun b hb => upd_ne (hpf b hb), nd, fun b hb => ?_⟩
  · by_cases hb : b = p
    · subst hb
      rw [upd_same] at q ⊢
      exact q
    · rw [upd_ne hb] at q ⊢
      exact x.same _ _ q
  · by_cases hb : b = p
    · subst hb
      rw [upd_same] at q ⊢
      exact q
    · rw [upd_ne hb] at q ⊢
      exact x.tups _ _ q
  · by_cases hb : b = p
    · subst hb
      exact .inr (x.fresh0 hp)
    · rw [upd_ne hb] at q
      exact x.grow b q
  · obtain ⟨f1, f2, f3⟩ := hf b hb
    exact ⟨by rw [upd_ne (hpf b hb)]; exact f1, upd_some f2, f3⟩
theorem Os.newTup {p : Addr} {vs : List V} {ds : List PyData} (x : Os K e L H S) (hp : H p = none) (h : DaL K S ds vs) : Os K e ((.dat (.tuple ds), .ref p) :: L) (upd H p (.tup vs)) (upd S p (.tup vs)) := by
  refine (x.newS hp).push ?_
  simp only [Da]
  exact ⟨p, vs, rfl, .inl (.inl upd_same), h.mono (same_upd (x.freshS hp))⟩
theorem Os.newLst {p : Addr} {vs : List V} {ds : List PyData} (x : Os K e L H S) (hp : H p = none) (h : DaL K S ds vs) : Os K e ((.dat (.list ds), .ref p) :: L) (upd H p (.lst vs)) (upd S p (.lst vs)) := by
  refine (x.newS hp).push ?_
  simp only [Da]
  exact ⟨p, vs, rfl, upd_same, h.mono (same_upd (x.freshS hp))⟩
/-- a new object that is owned, not a tuple -/
theorem Os.newO {p : Addr} {o : HO} {k : Kd} (x : Os K e L H S) (hp : H p = none) (nt : ∀ xs, o ≠ .tup xs) (hk : Ho K (upd H p o) S k (.ref p) [p]) : Os K e ((k, .ref p) :: L) (upd H p o) S := by
  obtain ⟨f, h, nd, hf⟩ := x.own
  have sp := x.freshS hp
  have hpf : ∀ b ∈ f, b ≠ p := fun b hb z => (hf b hb).2.1 (by rw [z]; exact hp)
  refine ⟨fun b u q => ?_, fun b xs q => ?_, x.old.trans (same_upd hp), x.oldS, x.grow, [p] ++ f, .cons hk (h.mono (Same.refl S) fun b hb => upd_ne (hpf b hb)), ?_, fun b hb => ?_⟩
  · rw [upd_ne (ne_of_none (x.same _ _ q) hp)]
    exact x.same _ _ q
  · by_cases hb : b = p
    · subst hb
      rw [upd_same] at q
      exact absurd (Option.some.inj q) (nt xs)
    · rw [upd_ne hb] at q
      exact x.tups _ _ q
  · exact List.nodup_cons.mpr ⟨fun z => hpf p z rfl, nd⟩
  · have hb : b ∈ p :: f := hb
    rcases List.mem_cons.mp hb with z | hb
    · subst z
      exact ⟨sp, (by rw [upd_same]; intro z; cases z), x.fresh0 hp⟩
    · obtain ⟨f1, f2, f3⟩ := hf b hb
      exact ⟨f1, upd_some f2, f3⟩
/-- an owned object is written -/
theorem Os.write {p : Addr} {o : HO} {k k' : Kd} {v : V} (x : Os K e ((k, v) :: L) H S) (hk : ∀ f, Ho K H S k v f → p ∈ f) (nt : ∀ xs, o ≠ .tup xs) (hk' : ∀ f, Ho K H S k v f → f.Nodup → Ho K (upd H p o) S k' v f) : Os K e ((k', v) :: L) (upd H p o) S := by
  obtain ⟨f, h, nd, hf⟩ := x.own
  cases h with
  | cons h1 h2 =>
    rename_i f1 f2
    have pf : p ∈ f1 := hk f1 h1
    obtain ⟨sp, hp, wp⟩ := hf p (by simp [pf])
    have nd2 := List.nodup_append.mp nd
    have hpf : ∀ b ∈ f2, b ≠ p := fun b hb z => nd2.2.2 p pf b hb z.symm
    refine ⟨fun b u q => ?_, fun b xs q => ?_, fun b u q => ?_, x.oldS, x.grow, f1 ++ f2, .cons (hk' f1 h1 nd2.1) (h2.mono (Same.refl S) fun b hb => upd_ne (hpf b hb)), nd, fun b hb => ?_⟩
    · rw [upd_ne (ne_of_none q sp)]
      exact x.same _ _ q
    · by_cases hb : b = p
      · subst hb
        rw [upd_same] at q
        exact absurd (Option.some.inj q) (nt xs)
      · rw [upd_ne hb] at q
        exact x.tups _ _ q
    · rw [upd_ne (ne_of_none q wp)]
      exact x.old b u q
    · obtain ⟨f1, f2, f3⟩ := hf b hb
      exact ⟨f1, upd_some f2, f3⟩
/-- an owned list becomes data -/
theorem Os.freeze {ds : List PyData} {v : V} (x : Os K e ((.ml ds, v) :: L) H S) : ∃ S', Same S S' ∧ Os K e ((.dat (.list ds), v) :: L) H S' := by
  obtain ⟨f, h, nd, hf⟩ := x.own
  cases h with
  | cons h1 h2 =>
    rename_i f1 f2
    simp only [Ho] at h1
    obtain ⟨p, xs, rfl, rfl, hp, hd⟩ := h1
    obtain ⟨sp, _, wp⟩ := hf p (by simp)
    have nd2 := List.nodup_cons.mp (show (p :: f2).Nodup from nd)
    have eS : Same S (upd S p (.lst xs)) := same_upd sp
    refine ⟨upd S p (.lst xs), eS, ?_⟩
    have y : Os K e L H (upd S p (.lst xs)) := by
      refine ⟨fun b u q => ?_, fun b ys q => eS _ _ (x.tups _ _ q), x.old, x.oldS.trans eS, fun b q => ?_, f2, h2.mono eS fun _ _ => rfl, nd2.2, fun b hb => ?_⟩
      · by_cases hb : b = p
        · subst hb
          rw [upd_same] at q
          rw [hp]
          exact q
        · rw [upd_ne hb] at q
          exact x.same _ _ q
      · by_cases hb : b = p
        · subst hb
          exact .inr wp
        · rw [upd_ne hb] at q
          exact x.grow b q
      · obtain ⟨g1, g2, g3⟩ := hf b (by simp [hb])
        have nb : b ≠ p := fun z => nd2.1 (by rw [← z]; exact hb)
        exact ⟨by rw [upd_ne nb]; exact g1, g2, g3⟩
    refine y.push ?_
    simp only [Da]
    exact ⟨p, xs, rfl, upd_same, hd.mono eS⟩
end
/-! ### calls -/
/-- the heap of a call without what the call may write -/
def less (H : Hp) (f : List Addr) : Hp := fun b => if b ∈ f then none else H b
theorem less_in {H : Hp} {f : List Addr} {b : Addr} (h : b ∈ f) : less H f b = none := if_pos h
theorem less_out {H : Hp} {f : List Addr} {b : Addr} (h : b ∉ f) : less H f b = H b := if_neg h
section
variable {K : PySem.W.Frag} {e : En} {L M M' : En2} {S S' H H' : Hp}
/-- what a call is given -/
theorem Os.enter (x : Os K e (M ++ L) H S) : ∃ f, SL K H S M f ∧ Os K ⟨less H f, S⟩ M H S := by
  obtain ⟨f, h, nd, hf⟩ := x.own
  obtain ⟨f1, f2, rfl, h1, h2⟩ := h.split
  refine ⟨f1, h1, x.same, x.tups, fun b u q => ?_, Same.refl S, fun b q => .inl q, f1, h1, (List.nodup_append.mp nd).1, fun b hb => ?_⟩
  · by_cases hb : b ∈ f1
    · have q : less H f1 b = some u := q
      rw [less_in hb] at q
      cases q
    · have q : less H f1 b = some u := q
      rw [less_out hb] at q
      exact q
  · obtain ⟨g1, g2, g3⟩ := hf b (by simp [hb])
    exact ⟨g1, g2, less_in hb⟩
/-- the state behind a call -/
theorem Os.leave (x : Os K e (M ++ L) H S) {f : List Addr} (hf1 : SL K H S M f) (y : Os K ⟨less H f, S⟩ M' H' S') : Os K e (M' ++ L) H' S' := by
  obtain ⟨g, h, nd, hg⟩ := x.own
  obtain ⟨f1, f2, rfl, h1, h2⟩ := h.split
  obtain rfl := h1.fp hf1
  obtain ⟨g', h', nd', hg'⟩ := y.own
  have nd3 := List.nodup_append.mp nd
  have far : ∀ b ∈ f2, H' b = H b := fun b hb => by
    have nb : b ∉ f1 := fun z => nd3.2.2 b z b hb rfl
    cases q : H b with
    | none => exact absurd q (hg b (by simp [hb])).2.1
    | some o => exact y.old b o (by show less H f1 b = some o; rw [less_out nb]; exact q)
  have eS : Same S S' := y.oldS
  refine ⟨y.same, y.tups, fun b o q => ?_, x.oldS.trans eS, fun b q => ?_, g' ++ f2, h'.append (h2.mono eS far), ?_, fun b hb => ?_⟩
  · have nb : b ∉ f1 := fun z => by
      have := (hg b (by simp [z])).2.2
      rw [q] at this
      cases this
    exact y.old b o (by show less H f1 b = some o; rw [less_out nb]; exact x.old b o q)
  · rcases y.grow b q with z | z
    · exact x.grow b z
    · have z : less H f1 b = none := z
      by_cases hb : b ∈ f1
      · exact .inr (hg b (by simp [hb])).2.2
      · rw [less_out hb] at z
        exact .inr (x.fresh0 z)
  · refine List.nodup_append.mpr ⟨nd', nd3.2.1, fun a ha b hb z => ?_⟩
    subst z
    have z : less H f1 a = none := (hg' a ha).2.2
    have na : a ∉ f1 := fun z => nd3.2.2 a z a hb rfl
    rw [less_out na] at z
    exact (hg a (by simp [hb])).2.1 z
  · rcases List.mem_append.mp hb with hb | hb
    · obtain ⟨a1, a2, a3⟩ := hg' b hb
      refine ⟨a1, a2, ?_⟩
      have a3 : less H f1 b = none := a3
      by_cases hb1 : b ∈ f1
      · exact (hg b (by simp [hb1])).2.2
      · rw [less_out hb1] at a3
        exact x.fresh0 a3
    · obtain ⟨a1, a2, a3⟩ := hg b (by simp [hb])
      refine ⟨?_, by rw [far b hb]; exact a2, a3⟩
      cases q : S' b with
      | none => rfl
      | some o =>
        rcases y.grow b (by rw [q]; intro z; cases z) with z | z
        · exact absurd a1 z
        · have z : less H f1 b = none := z
          have nb : b ∉ f1 := fun z => nd3.2.2 b z b hb rfl
          rw [less_out nb] at z
          exact absurd z a2
end
end Ov
set_option Elab.async false
set_option linter.all false
set_option maxRecDepth 100000
set_option maxHeartbeats 1000000
namespace Ov
open PySem PySem.Spec PyProof.Rows L2

/-! ### slots -/
abbrev Rho := List (Option Kd)
def ents : Rho → L2.St → En2
  | some k :: ρ, some v :: σ => (k, v) :: ents ρ σ
  | some _ :: ρ, none :: σ => ents ρ σ
  | none :: ρ, _ :: σ => ents ρ σ
  | _, _ => []
def Cov : Rho → L2.St → Prop
  | [], [] => True
  | some _ :: ρ, some _ :: σ => Cov ρ σ
  | none :: ρ, _ :: σ => Cov ρ σ
  | _, _ => False
theorem Cov.len : ∀ {ρ : Rho} {σ : L2.St}, Cov ρ σ → ρ.length = σ.length
  | [], [], _ => rfl
  | some _ :: ρ, some _ :: σ, h => by simp only [Cov] at h; simp [Cov.len h]
  | none :: ρ, _ :: σ, h => by simp only [Cov] at h; simp [Cov.len h]
  | [], _ :: _, h => by simp [Cov] at h
  | some _ :: _, none :: _, h => by simp [Cov] at h
  | some _ :: _, [], h => by simp [Cov] at h
  | none :: _, [], h => by simp [Cov] at h
/-- the i-th slot's entry taken out -/
theorem ents_take : ∀ {ρ : Rho} {σ : L2.St} {i : Nat} {k : Kd}, Cov ρ σ → ρ[i]? = some (some k) → ∃ v, σ[i]? = some (some v) ∧ (ents ρ σ).Perm ((k, v) :: ents (ρ.set i none) σ) ∧ Cov (ρ.set i none) σ
  | [], _, i, _, _, e => by simp at e
  | some k' :: ρ, some v :: σ, 0, k, h, e => by
    simp at e
    subst e
    exact ⟨v, rfl, .refl _, by simpa [Cov] using h⟩
  | some k' :: ρ, some v :: σ, i + 1, k, h, e => by
    obtain ⟨u, e1, e2, e3⟩ := ents_take (i := i) (k := k) (show Cov ρ σ by simpa [Cov] using h) (by simpa using e)
    refine ⟨u, by simpa using e1, ?_, by simpa [Cov] using e3⟩
    simp only [ents, List.set_cons_succ]
    exact (e2.cons _).trans (.swap _ _ _)
  | none :: ρ, x :: σ, i + 1, k, h, e => by
    obtain ⟨u, e1, e2, e3⟩ := ents_take (i := i) (k := k) (show Cov ρ σ by simpa [Cov] using h) (by simpa using e)
    refine ⟨u, by simpa using e1, ?_, by simpa [Cov] using e3⟩
    simpa only [ents, List.set_cons_succ] using e2
  | none :: ρ, x :: σ, 0, k, h, e => by simp at e
  | some _ :: _, none :: _, _, _, h, _ => by simp [Cov] at h
  | some _ :: _, [], _, _, h, _ => by simp [Cov] at h
  | none :: _, [], _, _, h, _ => by simp [Cov] at h
/-- an entry put at a free slot that holds the value -/
theorem ents_put : ∀ {ρ : Rho} {σ : L2.St} {i : Nat} {k : Kd} {v : V}, Cov ρ σ → ρ[i]? = some none → σ[i]? = some (some v) → (ents (ρ.set i (some k)) σ).Perm ((k, v) :: ents ρ σ) ∧ Cov (ρ.set i (some k)) σ
  | [], _, i, _, _, _, e, _ => by simp at e
  | none :: ρ, x :: σ, 0, k, v, h, _, e => by
    simp at e
    subst e
    exact ⟨.refl _, by simpa [Cov] using h⟩
  | none :: ρ, x :: σ, i + 1, k, v, h, e, e' => by
    obtain ⟨e2, e3⟩ := ents_put (i := i) (k := k) (v := v) (show Cov ρ σ by simpa [Cov] using h) (by simpa using e) (by simpa using e')
    exact ⟨by simpa only [ents, List.set_cons_succ] using e2, by simpa [Cov] using e3⟩
  | some k' :: ρ, some u :: σ, i + 1, k, v, h, e, e' => by
    obtain ⟨e2, e3⟩ := ents_put (i := i) (k := k) (v := v) (show Cov ρ σ by simpa [Cov] using h) (by simpa using e) (by simpa using e')
    refine ⟨?_, by simpa [Cov] using e3⟩
    simp only [ents, List.set_cons_succ]
    exact (e2.cons _).trans (.swap _ _ _)
  | some _ :: _, _, 0, _, _, _, e, _ => by simp at e
  | some _ :: _, none :: _, _, _, _, h, _, _ => by simp [Cov] at h
  | some _ :: _, [], _, _, _, h, _, _ => by simp [Cov] at h
  | none :: _, [], _, _, _, h, _, _ => by simp [Cov] at h
/-- the slot's value does not matter where nothing is known of it -/
theorem ents_free : ∀ {ρ : Rho} {σ : L2.St} {i : Nat} {x : Option V}, Cov ρ σ → ρ[i]? = some none → ents ρ (σ.set i x) = ents ρ σ ∧ Cov ρ (σ.set i x)
  | [], _, i, _, _, e => by simp at e
  | none :: ρ, y :: σ, 0, x, h, _ => ⟨rfl, by simpa [Cov] using h⟩
  | none :: ρ, y :: σ, i + 1, x, h, e => by
    obtain ⟨e1, e2⟩ := ents_free (i := i) (x := x) (show Cov ρ σ by simpa [Cov] using h) (by simpa using e)
    exact ⟨by simpa only [ents, List.set_cons_succ] using e1, by simpa [Cov] using e2⟩
  | some k :: ρ, some u :: σ, i + 1, x, h, e => by
    obtain ⟨e1, e2⟩ := ents_free (i := i) (x := x) (show Cov ρ σ by simpa [Cov] using h) (by simpa using e)
    exact ⟨by simp only [ents, List.set_cons_succ, e1], by simpa [Cov] using e2⟩
  | some _ :: _, _, 0, _, _, e => by simp at e
  | some _ :: _, none :: _, _, _, h, _ => by simp [Cov] at h
  | some _ :: _, [], _, _, h, _ => by simp [Cov] at h
  | none :: _, [], _, _, h, _ => by simp [Cov] at h
section
variable {K : PySem.W.Frag} {e : En} {L : En2} {H S : Hp} {ρ : Rho} {σ : L2.St}
/-- a slot forgotten -/
theorem Os.forget (i : Nat) (c : Cov ρ σ) (x : Os K e (L ++ ents ρ σ) H S) : Os K e (L ++ ents (ρ.set i none) σ) H S ∧ Cov (ρ.set i none) σ := by
  cases h : ρ[i]? with
  | none =>
    have e1 : ρ.set i none = ρ := by
      rw [List.set_eq_of_length_le (List.getElem?_eq_none_iff.mp h)]
    rw [e1]
    exact ⟨x, c⟩
  | some o =>
    cases o with
    | none =>
      have e1 : ρ.set i none = ρ := by
        apply List.ext_getElem?
        intro j
        by_cases hj : i = j
        · subst hj
          rw [List.getElem?_set_self (List.getElem?_eq_some_iff.mp h).1, h]
        · rw [List.getElem?_set_ne hj]
      rw [e1]
      exact ⟨x, c⟩
    | some k =>
      obtain ⟨v, _, p, c'⟩ := ents_take c h
      exact ⟨(x.perm ((p.append_left L).trans List.perm_middle)).drop, c'⟩
theorem set_self_none {i : Nat} (hi : i < ρ.length) : (ρ.set i none)[i]? = some none := by rw [List.getElem?_set_self hi]
/-- a slot stored: the entry at the head goes there -/
theorem Os.store {i : Nat} {k : Kd} {v : V} (hi : i < ρ.length) (c : Cov ρ σ) (x : Os K e ((k, v) :: (L ++ ents ρ σ)) H S) : Os K e (L ++ ents (ρ.set i (some k)) (σ.set i (some v))) H S ∧ Cov (ρ.set i (some k)) (σ.set i (some v)) := by
  obtain ⟨x1, c1⟩ := Os.forget (L := (k, v) :: L) i c x
  have h0 : (ρ.set i none)[i]? = some none := set_self_none hi
  obtain ⟨e2, c2⟩ := ents_free (x := some v) c1 h0
  have hs : (σ.set i (some v))[i]? = some (some v) := List.getElem?_set_self (by rw [← c.len]; exact hi)
  obtain ⟨p3, c3⟩ := ents_put (k := k) c2 h0 hs
  rw [List.set_set] at p3 c3
  rw [e2] at p3
  refine ⟨x1.perm ?_, c3⟩
  exact (List.perm_middle.symm.trans (p3.symm.append_left L) : ((k, v) :: (L ++ ents (ρ.set i none) σ)).Perm _)
/-- what a slot with data holds -/
theorem Os.slot {i : Nat} {d : PyData} (c : Cov ρ σ) (h : ρ[i]? = some (some (.dat d))) (x : Os K e (L ++ ents ρ σ) H S) : ∃ v, σ[i]? = some (some v) ∧ Da K S d v := by
  obtain ⟨v, e1, p, _⟩ := ents_take c h
  exact ⟨v, e1, (x.perm ((p.append_left L).trans List.perm_middle)).dat⟩
/-- any slot, out and in again -/
theorem Os.focus {i : Nat} {k : Kd} (c : Cov ρ σ) (h : ρ[i]? = some (some k)) (x : Os K e (L ++ ents ρ σ) H S) : ∃ v, σ[i]? = some (some v) ∧ Os K e ((k, v) :: (L ++ ents (ρ.set i none) σ)) H S ∧
    ∀ (k' : Kd) (L' : En2) (e' : En) (H' S' : Hp), Os K e' ((k', v) :: (L' ++ ents (ρ.set i none) σ)) H' S' → Os K e' (L' ++ ents (ρ.set i (some k')) σ) H' S' ∧ Cov (ρ.set i (some k')) σ := by
  obtain ⟨v, e1, p, c1⟩ := ents_take c h
  refine ⟨v, e1, x.perm ((p.append_left L).trans List.perm_middle), fun k' L' e' H' S' y => ?_⟩
  have h0 : (ρ.set i none)[i]? = some none := set_self_none (List.getElem?_eq_some_iff.mp h).1
  obtain ⟨p3, c3⟩ := ents_put (k := k') c1 h0 e1
  rw [List.set_set] at p3 c3
  exact ⟨y.perm (List.perm_middle.symm.trans (p3.symm.append_left L')), c3⟩
end
theorem PE.mono {X : Cx} {ex : Expr} {t t' : TE} (h : PE X ex t) (g : ∀ σ H Q, t' σ H Q → t σ H Q) : PE X ex t' := ⟨fun pins s σ H Q I q => h.run pins s σ H Q I (g σ H Q q)⟩
theorem PT.mono {X : Cx} {ex : Expr} {t t' : TT} (h : PT X ex t) (g : ∀ σ H Q, t' σ H Q → t σ H Q) : PT X ex t' := ⟨fun pins s σ H Q I q => h.run pins s σ H Q I (g σ H Q q)⟩
theorem PW.mono {X : Cx} {ex : Expr} {t t' : TT} (h : PW X ex t) (g : ∀ σ H Q, t' σ H Q → t σ H Q) : PW X ex t' := ⟨fun wh pins s σ H Q I q => h.run wh pins s σ H Q I (g σ H Q q)⟩
theorem PA.mono {X : Cx} {es : List Expr} {t t' : TA} (h : PA X es t) (g : ∀ σ H Q, t' σ H Q → t σ H Q) : PA X es t' := ⟨fun pos pins s σ H Q I q => h.run pos pins s σ H Q I (g σ H Q q)⟩
theorem PS.mono {X : Cx} {st : Stmt} {t t' : TS} (h : PS X st t) (g : ∀ D σ H, t' D σ H → t D σ H) : PS X st t' := ⟨fun pins s σ H D I q => h.run pins s σ H D I (g D σ H q)⟩
theorem PSs.mono {X : Cx} {st : List Stmt} {t t' : TS} (h : PSs X st t) (g : ∀ D σ H, t' D σ H → t D σ H) : PSs X st t' := ⟨fun pins s σ H D I q => h.run pins s σ H D I (g D σ H q)⟩
theorem PI.mono {X : Cx} {tg ex : Expr} {t t' : TI} (h : PI X tg ex t) (g : ∀ σ H R, t' σ H R → t σ H R) : PI X tg ex t' := ⟨fun pins s σ H R I q => h.run pins s σ H R I (g σ H R q)⟩
theorem PG.mono {X : Cx} {tg : Expr} {t t' : TG} (h : PG X tg t) (g : ∀ v σ H Q, t' v σ H Q → t v σ H Q) : PG X tg t' := ⟨fun pins s σ H v u Q I r q => h.run pins s σ H v u Q I r (g v σ H Q q)⟩
theorem PGs.mono {X : Cx} {tg : List Expr} {t t' : TGs} (h : PGs X tg t) (g : ∀ v σ H Q, t' v σ H Q → t v σ H Q) : PGs X tg t' := ⟨fun pins s σ H v u Q I r q => h.run pins s σ H v u Q I r (g v σ H Q q)⟩

/-! ### the judgements -/
def tX (K : PySem.W.Frag) (e : En) (ρ ρ' : Rho) (k : Kd) : TE := fun σ H Q => ∃ S stk, Cov ρ σ ∧ Os K e (stk ++ ents ρ σ) H S ∧ ∀ v H' S', Cov ρ' σ → Os K e ((k, v) :: (stk ++ ents ρ' σ)) H' S' → Q v H'
/-- an expression: the slots' contents before and behind it, what its value is -/
def DX (X : Cx) (e : En) (ρ : Rho) (ex : Expr) (ρ' : Rho) (k : Kd) : Prop := PE X ex (tX X.K e ρ ρ' k)
def tT (K : PySem.W.Frag) (e : En) (ρ ρ' : Rho) (b : Bool) : TT := fun σ H Q => ∃ S stk, Cov ρ σ ∧ Os K e (stk ++ ents ρ σ) H S ∧ ∀ H' S', Cov ρ' σ → Os K e (stk ++ ents ρ' σ) H' S' → Q b H'
/-- a test -/
def DT (X : Cx) (e : En) (ρ : Rho) (ex : Expr) (ρ' : Rho) (b : Bool) : Prop := PT X ex (tT X.K e ρ ρ' b)
def DW (X : Cx) (e : En) (ρ : Rho) (ex : Expr) (ρ' : Rho) (b : Bool) : Prop := PW X ex (tT X.K e ρ ρ' b)
/-- an argument: a value of its own, or the thing in a slot -/
inductive Ar where
  | pu (k : Kd)
  | sl (i : Nat)
def pushed : List Ar → List V → En2
  | .pu k :: as, v :: vs => (k, v) :: pushed as vs
  | .sl _ :: as, _ :: vs => pushed as vs
  | _, _ => []
def ArOk : List Ar → List V → L2.St → Prop
  | [], [], _ => True
  | .pu _ :: as, _ :: vs, σ => ArOk as vs σ
  | .sl i :: as, v :: vs, σ => σ[i]? = some (some v) ∧ ArOk as vs σ
  | _, _, _ => False
def tAr (K : PySem.W.Frag) (e : En) (ρ ρ' : Rho) (as : List Ar) : TA := fun σ H Q => ∃ S stk, Cov ρ σ ∧ Os K e (stk ++ ents ρ σ) H S ∧ ∀ vs H' S', Cov ρ' σ → ArOk as vs σ → Os K e (pushed as vs ++ (stk ++ ents ρ' σ)) H' S' → Q vs H'
def DA (X : Cx) (e : En) (ρ : Rho) (es : List Expr) (ρ' : Rho) (as : List Ar) : Prop := PA X es (tAr X.K e ρ ρ' as)
def slots (ts : List Nat) (σ σ' : L2.St) : Prop := σ'.length = σ.length ∧ ∀ j, j ∉ ts → σ'[j]? = σ[j]?
def tG (K : PySem.W.Frag) (e : En) (ρ : Rho) (k : Kd) (ρ' : Rho) (ts : List Nat) : TG := fun v σ H Q => ∃ S stk, Cov ρ σ ∧ Os K e ((k, v) :: (stk ++ ents ρ σ)) H S ∧ ∀ σ' H' S', slots ts σ σ' → Cov ρ' σ' → Os K e (stk ++ ents ρ' σ') H' S' → Q σ' H'
/-- a target of a store -/
def DG (X : Cx) (e : En) (ρ : Rho) (tg : Expr) (k : Kd) (ρ' : Rho) (ts : List Nat) : Prop := PG X tg (tG X.K e ρ k ρ' ts)
def tGs (K : PySem.W.Frag) (e : En) (ρ : Rho) (ds : List PyData) (ρ' : Rho) (ts : List Nat) : TGs := fun vs σ H Q => ∃ S stk, Cov ρ σ ∧ DaL K S ds vs ∧ Os K e (stk ++ ents ρ σ) H S ∧ ∀ σ' H' S', slots ts σ σ' → Cov ρ' σ' → Os K e (stk ++ ents ρ' σ') H' S' → Q σ' H'
def DGs (X : Cx) (e : En) (ρ : Rho) (tg : List Expr) (ds : List PyData) (ρ' : Rho) (ts : List Nat) : Prop := PGs X tg (tGs X.K e ρ ds ρ' ts)
/-- what is walked: the items, with what must stand meanwhile -/
structure Wk (K : PySem.W.Frag) (e : En) (J : It) (L0 : En2) (ds : List PyData) : Prop where
  goes : ∀ i H S L, i < ds.length → Os K e (L0 ++ L) H S → J.go i H
  stops : ∀ H S L, Os K e (L0 ++ L) H S → J.stop ds.length H
  yields : ∀ i H S L x H' d, ds[i]? = some d → Os K e (L0 ++ L) H S → J.yld i H x H' → ∃ S', Os K e ((.dat d, x) :: (L0 ++ L)) H' S'
def tI (K : PySem.W.Frag) (e : En) (ρ ρ' : Rho) (ds : List PyData) : TI := fun σ H R => ∃ S stk, Cov ρ σ ∧ Os K e (stk ++ ents ρ σ) H S ∧ ∀ J L0 H' S', ds.length ≤ sizeLine → Wk K e J L0 ds → Cov ρ' σ → Os K e (L0 ++ (stk ++ ents ρ' σ)) H' S' → R J H'
def DI (X : Cx) (e : En) (ρ : Rho) (tg ex : Expr) (ρ' : Rho) (ds : List PyData) : Prop := PI X tg ex (tI X.K e ρ ρ' ds)
end Ov
set_option Elab.async false
set_option linter.all false
set_option maxRecDepth 100000
set_option maxHeartbeats 1000000
namespace Ov
open PySem PySem.Spec PyProof.Rows L2
section
variable {X : Cx} {e : En} {ρ ρ1 ρ2 ρ3 : Rho} {ea eb ec ex : Expr} {pos : Pos} {k : Kd}

/-! ### names, constants -/
theorem dx_var (i : Nat) {x : Str} {d : PyData} {p : Pos} (hρ : ρ[i]? = some (some (.dat d)) := by rfl) (hN : X.N[i]? = some x := by rfl) (hv : Vis X.env.scope x := by first | exact Or.inl rfl | exact Or.inr (Or.inl rfl) | exact Or.inr (Or.inr rfl))
    (hd : (x == ("__debug__" : Str)) = false := by decide) (hcd : (x == ("__classdict__" : Str)) = false := by decide) : DX X e ρ (.Name x p) ρ (.dat d) := by
  refine PE.mono (pe_var hN hv hd hcd) fun σ H Q ⟨S, stk, c, o, q⟩ => ?_
  obtain ⟨v, e1, h⟩ := o.slot c hρ
  exact ⟨v, e1, q v H S c (o.push h)⟩
theorem dx_int {i : Int} {j p} : DX X e ρ (.Constant (.int i) j p) ρ (.dat (.int i)) := PE.mono pe_int fun σ H Q ⟨S, stk, c, o, q⟩ => q _ H S c (o.push (by simp only [Da]))
theorem dx_bl {b j p} : DX X e ρ (.Constant (.bool b) j p) ρ (.dat (.bool b)) := PE.mono pe_bl fun σ H Q ⟨S, stk, c, o, q⟩ => q _ H S c (o.push (by simp only [Da]))
theorem dx_non {j p} : DX X e ρ (.Constant .none j p) ρ (.dat .none) := PE.mono pe_non fun σ H Q ⟨S, stk, c, o, q⟩ => q _ H S c (o.push (by simp only [Da]))
theorem dx_str {x j p} : DX X e ρ (.Constant (.str x) j p) ρ (.dat (.str x)) := PE.mono pe_str fun σ H Q ⟨S, stk, c, o, q⟩ => q _ H S c (o.push (by simp only [Da]))
/-- a module's constant -/
theorem dx_gint {x : Str} {i : Int} {t : Tok} {p : Pos} (hg : Gl X x) (hm : X.mg x = some (.int i t)) (hd : (x == ("__debug__" : Str)) = false := by decide) : DX X e ρ (.Name x p) ρ (.dat (.int i)) :=
  PE.mono (pe_glob hg hm (v := .int i) ⟨t, rfl⟩ hd) fun σ H Q ⟨S, stk, c, o, q⟩ => q _ H S c (o.push (by simp only [Da]))
theorem dx_gstr {x : Str} {i : Str} {t : Tok} {p : Pos} (hg : Gl X x) (hm : X.mg x = some (.str i t)) (hd : (x == ("__debug__" : Str)) = false := by decide) : DX X e ρ (.Name x p) ρ (.dat (.str i)) :=
  PE.mono (pe_glob hg hm (v := .str i) ⟨t, rfl⟩ hd) fun σ H Q ⟨S, stk, c, o, q⟩ => q _ H S c (o.push (by simp only [Da]))
/-- an owned list as a value becomes data -/
theorem dx_fz {ds : List PyData} (h : DX X e ρ ex ρ1 (.ml ds)) : DX X e ρ ex ρ1 (.dat (.list ds)) := PE.mono h fun σ H Q ⟨S, stk, c, o, q⟩ => ⟨S, stk, c, o, fun v H1 S1 c1 o1 => by
  obtain ⟨S2, _, o2⟩ := o1.freeze
  exact q v H1 S2 c1 o2⟩
theorem dx_eq {k' : Kd} (h : DX X e ρ ex ρ1 k) (z : k = k') : DX X e ρ ex ρ1 k' := z ▸ h
theorem dx_d {d d' : PyData} (h : DX X e ρ ex ρ1 (.dat d)) (z : d = d') : DX X e ρ ex ρ1 (.dat d') := z ▸ h
theorem dt_eq {b b' : Bool} (h : DT X e ρ ex ρ1 b) (z : b = b') : DT X e ρ ex ρ1 b' := z ▸ h

/-! ### two operands -/
/-- an operation by values, on data -/
def R2d (K : PySem.W.Frag) (r : R2) (a b : PyData) (k : Kd) : Prop := ∀ (e : En) (L : En2) (H S : Hp) (x y : V) (Q : VK), Os K e L H S → Da K S a x → Da K S b y → (∀ v H' S', Os K e ((k, v) :: L) H' S' → Q v H') → r x y H Q
theorem dx_bin {r : R2} {a b : PyData} (hp : PE X ex (tOp r (tX X.K e ρ ρ1 (.dat a)) (tX X.K e ρ1 ρ2 (.dat b)))) (hr : R2d X.K r a b k) : DX X e ρ ex ρ2 k := by
  refine PE.mono hp fun σ H Q ⟨S, stk, c, o, q⟩ => ⟨S, stk, c, o, fun x H1 S1 c1 o1 => ⟨S1, (.dat a, x) :: stk, c1, o1, fun y H2 S2 c2 o2 => ?_⟩⟩
  have ha : Da X.K S2 a x := o2.drop.dat
  have hb : Da X.K S2 b y := o2.dat
  exact hr e _ H2 S2 x y Q o2.drop.drop ha hb fun v H' S' o' => q v H' S' c2 o'
theorem dx_op {op : Operator} {r : R2} {a b : PyData} (ho : OpR X (binaryOp op) r) (hr : R2d X.K r a b k) (ha : DX X e ρ ea ρ1 (.dat a)) (hb : DX X e ρ1 eb ρ2 (.dat b)) : DX X e ρ (.BinOp ea op eb pos) ρ2 k := dx_bin (pe_op ho ha hb) hr
theorem dx_cmp {op : CmpOp} {r : R2} {a b : PyData} (ho : OpR X (compareOp op) r) (hm : behindInMarks op eb = false) (hr : R2d X.K r a b k) (ha : DX X e ρ ea ρ1 (.dat a)) (hb : DX X e ρ1 eb ρ2 (.dat b)) : DX X e ρ (.Compare ea [op] [eb] pos) ρ2 k := dx_bin (pe_cmpR ho ha hb hm) hr
theorem dt_cmp {op : CmpOp} {r : R2} {a b : PyData} {c : Bool} (ho : OpR X (compareOp op) r) (hm : behindInMarks op eb = false) (hr : R2d X.K r a b (.dat (.bool c))) (ha : DX X e ρ ea ρ1 (.dat a)) (hb : DX X e ρ1 eb ρ2 (.dat b)) : DT X e ρ (.Compare ea [op] [eb] pos) ρ2 c := by
  refine PT.mono (pt_cmpR ho ha hb hm) fun σ H Q ⟨S, stk, c0, o, q⟩ => ⟨S, stk, c0, o, fun x H1 S1 c1 o1 => ⟨S1, (.dat a, x) :: stk, c1, o1, fun y H2 S2 c2 o2 => ?_⟩⟩
  have ha : Da X.K S2 a x := o2.drop.dat
  have hb : Da X.K S2 b y := o2.dat
  refine hr e _ H2 S2 x y _ o2.drop.drop ha hb fun v H' S' o' => ?_
  have hv := o'.dat
  simp only [Da] at hv
  exact ⟨c, hv, q H' S' c2 o'.drop⟩
theorem r2_ints {g : Int → Int → V} {d : PyData} {i j : Int} (h : ∀ K S, Da K S d (g i j)) {K : PySem.W.Frag} : R2d K (rI0 g) (.int i) (.int j) (.dat d) := fun e L H S x y Q o ha hb q => by
  simp only [Da] at ha hb
  exact ⟨i, j, ha, hb, q _ H S (o.push (h _ _))⟩
theorem r2_intsC {C : Int → Int → Prop} {g : Int → Int → V} {d : PyData} {i j : Int} (hc : C i j) (h : ∀ K S, Da K S d (g i j)) {K : PySem.W.Frag} : R2d K (rI C g) (.int i) (.int j) (.dat d) := fun e L H S x y Q o ha hb q => by
  simp only [Da] at ha hb
  exact ⟨i, j, ha, hb, hc, q _ H S (o.push (h _ _))⟩
theorem da_int {i : Int} (K : PySem.W.Frag) (S : Hp) : Da K S (.int i) (.int i) := by simp only [Da]
theorem da_bl {i : Bool} (K : PySem.W.Frag) (S : Hp) : Da K S (.bool i) (.bl i) := by simp only [Da]
theorem da_str {i : Str} (K : PySem.W.Frag) (S : Hp) : Da K S (.str i) (.str i) := by simp only [Da]
section
variable {i j : Int}
theorem dx_add (ha : DX X e ρ ea ρ1 (.dat (.int i))) (hb : DX X e ρ1 eb ρ2 (.dat (.int j))) : DX X e ρ (.BinOp ea .Add eb pos) ρ2 (.dat (.int (i + j))) := dx_op op_add (r2_ints da_int) ha hb
theorem dx_sub (ha : DX X e ρ ea ρ1 (.dat (.int i))) (hb : DX X e ρ1 eb ρ2 (.dat (.int j))) : DX X e ρ (.BinOp ea .Sub eb pos) ρ2 (.dat (.int (i - j))) := dx_op op_sub (r2_ints da_int) ha hb
theorem dx_mul (ha : DX X e ρ ea ρ1 (.dat (.int i))) (hb : DX X e ρ1 eb ρ2 (.dat (.int j))) (h : CMul i j) : DX X e ρ (.BinOp ea .Mult eb pos) ρ2 (.dat (.int (i * j))) := dx_op op_mul (r2_intsC h da_int) ha hb
theorem dx_div (ha : DX X e ρ ea ρ1 (.dat (.int i))) (hb : DX X e ρ1 eb ρ2 (.dat (.int j))) (h : CDiv i j) : DX X e ρ (.BinOp ea .FloorDiv eb pos) ρ2 (.dat (.int (i / j))) := dx_op op_fdiv (r2_intsC h da_int) ha hb
theorem dx_mod (ha : DX X e ρ ea ρ1 (.dat (.int i))) (hb : DX X e ρ1 eb ρ2 (.dat (.int j))) (h : 0 < j) : DX X e ρ (.BinOp ea .Mod eb pos) ρ2 (.dat (.int (i % j))) := dx_op op_mod (r2_intsC (C := fun _ j => 0 < j) h da_int) ha hb
theorem dx_neg (ha : DX X e ρ ea ρ1 (.dat (.int i))) : DX X e ρ (.UnaryOp .USub ea pos) ρ1 (.dat (.int (-i))) := by
  refine PE.mono (pe_un un_neg ha) fun σ H Q ⟨S, stk, c, o, q⟩ => ⟨S, stk, c, o, fun x H1 S1 c1 o1 => ?_⟩
  have h := o1.dat
  simp only [Da] at h
  exact ⟨i, h, q _ H1 S1 c1 (o1.drop.push (da_int _ _))⟩
theorem dt_lt (ha : DX X e ρ ea ρ1 (.dat (.int i))) (hb : DX X e ρ1 eb ρ2 (.dat (.int j))) : DT X e ρ (.Compare ea [.Lt] [eb] pos) ρ2 (decide (i < j)) := dt_cmp op_lt (nomark _) (r2_ints da_bl) ha hb
theorem dt_le (ha : DX X e ρ ea ρ1 (.dat (.int i))) (hb : DX X e ρ1 eb ρ2 (.dat (.int j))) : DT X e ρ (.Compare ea [.LtE] [eb] pos) ρ2 (decide (i ≤ j)) := dt_cmp op_le (nomark _) (r2_ints da_bl) ha hb
theorem dt_gt (ha : DX X e ρ ea ρ1 (.dat (.int i))) (hb : DX X e ρ1 eb ρ2 (.dat (.int j))) : DT X e ρ (.Compare ea [.Gt] [eb] pos) ρ2 (decide (j < i)) := dt_cmp op_gt (nomark _) (r2_ints da_bl) ha hb
theorem dt_ge (ha : DX X e ρ ea ρ1 (.dat (.int i))) (hb : DX X e ρ1 eb ρ2 (.dat (.int j))) : DT X e ρ (.Compare ea [.GtE] [eb] pos) ρ2 (decide (j ≤ i)) := dt_cmp op_ge (nomark _) (r2_ints da_bl) ha hb
theorem dx_lt (ha : DX X e ρ ea ρ1 (.dat (.int i))) (hb : DX X e ρ1 eb ρ2 (.dat (.int j))) : DX X e ρ (.Compare ea [.Lt] [eb] pos) ρ2 (.dat (.bool (decide (i < j)))) := dx_cmp op_lt (nomark _) (r2_ints da_bl) ha hb
theorem dx_le (ha : DX X e ρ ea ρ1 (.dat (.int i))) (hb : DX X e ρ1 eb ρ2 (.dat (.int j))) : DX X e ρ (.Compare ea [.LtE] [eb] pos) ρ2 (.dat (.bool (decide (i ≤ j)))) := dx_cmp op_le (nomark _) (r2_ints da_bl) ha hb
theorem dx_gt (ha : DX X e ρ ea ρ1 (.dat (.int i))) (hb : DX X e ρ1 eb ρ2 (.dat (.int j))) : DX X e ρ (.Compare ea [.Gt] [eb] pos) ρ2 (.dat (.bool (decide (j < i)))) := dx_cmp op_gt (nomark _) (r2_ints da_bl) ha hb
theorem dx_ge (ha : DX X e ρ ea ρ1 (.dat (.int i))) (hb : DX X e ρ1 eb ρ2 (.dat (.int j))) : DX X e ρ (.Compare ea [.GtE] [eb] pos) ρ2 (.dat (.bool (decide (j ≤ i)))) := dx_cmp op_ge (nomark _) (r2_ints da_bl) ha hb
end
/-- data that may be compared -/
theorem r2_eq {a b : PyData} {K : PySem.W.Frag} (ha : SeqAt.shaped a = true) (hb : SeqAt.shaped b = true) : R2d K (rEqD K) a b (.dat (.bool (PyData.eqv a b))) := fun e L H S x y Q o h1 h2 q =>
  ⟨a, b, Da.dp o.same a x h1, Da.dp o.same b y h2, ha, hb, q _ H S (o.push (da_bl _ _))⟩
theorem r2_ne {a b : PyData} {K : PySem.W.Frag} (ha : SeqAt.shaped a = true) (hb : SeqAt.shaped b = true) : R2d K (rNeD K) a b (.dat (.bool (!PyData.eqv a b))) := fun e L H S x y Q o h1 h2 q =>
  ⟨a, b, Da.dp o.same a x h1, Da.dp o.same b y h2, ha, hb, q _ H S (o.push (da_bl _ _))⟩
section
variable {a b : PyData} {lv : Nat}
theorem dt_eqD (hr : Room lv X.A) (ha : DX X e ρ ea ρ1 (.dat a)) (hb : DX X e ρ1 eb ρ2 (.dat b)) (sa : SeqAt.shaped a = true) (sb : SeqAt.shaped b = true) : DT X e ρ (.Compare ea [.Eq] [eb] pos) ρ2 (PyData.eqv a b) := dt_cmp (op_eqD hr.units) (nomark _) (r2_eq sa sb) ha hb
theorem dt_neD (hr : Room lv X.A) (ha : DX X e ρ ea ρ1 (.dat a)) (hb : DX X e ρ1 eb ρ2 (.dat b)) (sa : SeqAt.shaped a = true) (sb : SeqAt.shaped b = true) : DT X e ρ (.Compare ea [.NotEq] [eb] pos) ρ2 (!PyData.eqv a b) := dt_cmp (op_neD hr.units) (nomark _) (r2_ne sa sb) ha hb
theorem dx_eqD (hr : Room lv X.A) (ha : DX X e ρ ea ρ1 (.dat a)) (hb : DX X e ρ1 eb ρ2 (.dat b)) (sa : SeqAt.shaped a = true) (sb : SeqAt.shaped b = true) : DX X e ρ (.Compare ea [.Eq] [eb] pos) ρ2 (.dat (.bool (PyData.eqv a b))) := dx_cmp (op_eqD hr.units) (nomark _) (r2_eq sa sb) ha hb
theorem dx_neD (hr : Room lv X.A) (ha : DX X e ρ ea ρ1 (.dat a)) (hb : DX X e ρ1 eb ρ2 (.dat b)) (sa : SeqAt.shaped a = true) (sb : SeqAt.shaped b = true) : DX X e ρ (.Compare ea [.NotEq] [eb] pos) ρ2 (.dat (.bool (!PyData.eqv a b))) := dx_cmp (op_neD hr.units) (nomark _) (r2_ne sa sb) ha hb
end
/-- is None, is not None -/
def isNone : PyData → Bool
  | .none => true
  | _ => false
theorem da_none {K : PySem.W.Frag} {S : Hp} {d : PyData} {v : V} (h : Da K S d v) : decide (v = .non) = isNone d := by
  cases d <;> simp only [Da] at h
  · subst h; rfl
  · subst h; rfl
  · subst h; rfl
  · subst h; rfl
  · obtain ⟨a, xs, rfl, _⟩ := h; rfl
  · obtain ⟨a, xs, rfl, _⟩ := h; rfl
theorem dx_isN {d : PyData} {j p} (ha : DX X e ρ ea ρ1 (.dat d)) : DX X e ρ (.Compare ea [.Is] [.Constant .none j p] pos) ρ1 (.dat (.bool (isNone d))) := dx_cmp op_isN (nomark _) (b := .none) (fun e L H S x y Q o h1 h2 q => by
  simp only [Da] at h2
  exact ⟨h2, q _ H S (o.push (by rw [da_none h1]; exact da_bl _ _))⟩) ha dx_non
theorem dt_isN {d : PyData} {j p} (ha : DX X e ρ ea ρ1 (.dat d)) : DT X e ρ (.Compare ea [.Is] [.Constant .none j p] pos) ρ1 (isNone d) := dt_cmp op_isN (nomark _) (b := .none) (fun e L H S x y Q o h1 h2 q => by
  simp only [Da] at h2
  exact ⟨h2, q _ H S (o.push (by rw [da_none h1]; exact da_bl _ _))⟩) ha dx_non
theorem dx_notN {d : PyData} {j p} (ha : DX X e ρ ea ρ1 (.dat d)) : DX X e ρ (.Compare ea [.IsNot] [.Constant .none j p] pos) ρ1 (.dat (.bool (!isNone d))) := dx_cmp op_notN (nomark _) (b := .none) (fun e L H S x y Q o h1 h2 q => by
  simp only [Da] at h2
  exact ⟨h2, q _ H S (o.push (by rw [da_none h1]; exact da_bl _ _))⟩) ha dx_non
theorem dt_notN {d : PyData} {j p} (ha : DX X e ρ ea ρ1 (.dat d)) : DT X e ρ (.Compare ea [.IsNot] [.Constant .none j p] pos) ρ1 (!isNone d) := dt_cmp op_notN (nomark _) (b := .none) (fun e L H S x y Q o h1 h2 q => by
  simp only [Da] at h2
  exact ⟨h2, q _ H S (o.push (by rw [da_none h1]; exact da_bl _ _))⟩) ha dx_non
/-! ### tests -/
theorem dt_val {b : Bool} (h : DX X e ρ ex ρ1 (.dat (.bool b))) (he : ∀ whole, isTrue ex X.env whole = (do let v ← whole; standAt ex.pos; holding [v] (truthy v)) := by intro _; rfl) : DT X e ρ ex ρ1 b := by
  refine PT.mono (pt_val h he) fun σ H Q ⟨S, stk, c, o, q⟩ => ⟨S, stk, c, o, fun v H1 S1 c1 o1 => ?_⟩
  have h := o1.dat
  simp only [Da] at h
  exact ⟨b, h, q H1 S1 c1 o1.drop⟩
theorem dw_and1 {b : Bool} (h : DT X e ρ ea ρ1 b) : DW X e ρ (.BoolOp .And [ea] pos) ρ1 b := pw_and1 h
theorem dw_or1 {b : Bool} (h : DT X e ρ ea ρ1 b) : DW X e ρ (.BoolOp .Or [ea] pos) ρ1 b := pw_or1 h
/-- a and b (b is asked where a holds; both leave the slots) -/
theorem dw_and {b c : Bool} {rest : List Expr} (h : DT X e ρ ea ρ b) (h2 : b = true → DW X e ρ (.BoolOp .And (eb :: rest) pos) ρ c) : DW X e ρ (.BoolOp .And (ea :: eb :: rest) pos) ρ (b && c) := by
  have h3 : PW X (.BoolOp .And (eb :: rest) pos) (fun σ H Q => b = true ∧ tT X.K e ρ ρ c σ H Q) := ⟨fun wh pins s σ H Q I q => (h2 q.1).run wh pins s σ H Q I q.2⟩
  refine PW.mono (pw_and h h3) fun σ H Q ⟨S, stk, c0, o, q⟩ => ⟨S, stk, c0, o, fun H1 S1 c1 o1 => ?_⟩
  cases b with
  | true =>
    rw [if_pos rfl]
    exact ⟨rfl, S1, stk, c1, o1, q⟩
  | false =>
    rw [if_neg Bool.false_ne_true]
    exact q H1 S1 c1 o1
theorem dw_or {b c : Bool} {rest : List Expr} (h : DT X e ρ ea ρ b) (h2 : b = false → DW X e ρ (.BoolOp .Or (eb :: rest) pos) ρ c) : DW X e ρ (.BoolOp .Or (ea :: eb :: rest) pos) ρ (b || c) := by
  have h3 : PW X (.BoolOp .Or (eb :: rest) pos) (fun σ H Q => b = false ∧ tT X.K e ρ ρ c σ H Q) := ⟨fun wh pins s σ H Q I q => (h2 q.1).run wh pins s σ H Q I q.2⟩
  refine PW.mono (pw_or h h3) fun σ H Q ⟨S, stk, c0, o, q⟩ => ⟨S, stk, c0, o, fun H1 S1 c1 o1 => ?_⟩
  cases b with
  | true =>
    rw [if_pos rfl]
    exact q H1 S1 c1 o1
  | false =>
    rw [if_neg Bool.false_ne_true]
    exact ⟨rfl, S1, stk, c1, o1, q⟩
theorem dt_w {b : Bool} (h : DW X e ρ ex ρ1 b) : DT X e ρ ex ρ1 b := PW.pt h
theorem dt_not {b : Bool} (h : DT X e ρ ea ρ1 b) : DT X e ρ (.UnaryOp .Not ea pos) ρ1 (!b) := PT.mono (pt_not h) fun σ H Q ⟨S, stk, c0, o, q⟩ => ⟨S, stk, c0, o, fun H1 S1 c1 o1 => q H1 S1 c1 o1⟩
theorem dx_not {b : Bool} (h : DX X e ρ ea ρ1 (.dat (.bool b))) : DX X e ρ (.UnaryOp .Not ea pos) ρ1 (.dat (.bool (!b))) := PE.mono (pe_not h) fun σ H Q ⟨S, stk, c0, o, q⟩ => ⟨S, stk, c0, o, fun v H1 S1 c1 o1 => by
  have h := o1.dat
  simp only [Da] at h
  exact ⟨b, h, q _ H1 S1 c1 (o1.drop.push (da_bl _ _))⟩⟩
theorem dx_one {op} (h : DX X e ρ ea ρ1 k) : DX X e ρ (.BoolOp op [ea] pos) ρ1 k := pe_one h
theorem dx_and {b c : Bool} {rest : List Expr} (h : DX X e ρ ea ρ (.dat (.bool b))) (h2 : b = true → DX X e ρ (.BoolOp .And (eb :: rest) pos) ρ (.dat (.bool c))) : DX X e ρ (.BoolOp .And (ea :: eb :: rest) pos) ρ (.dat (.bool (b && c))) := by
  have h3 : PE X (.BoolOp .And (eb :: rest) pos) (fun σ H Q => b = true ∧ tX X.K e ρ ρ (.dat (.bool c)) σ H Q) := ⟨fun pins s σ H Q I q => (h2 q.1).run pins s σ H Q I q.2⟩
  refine PE.mono (pe_and h h3) fun σ H Q ⟨S, stk, c0, o, q⟩ => ⟨S, stk, c0, o, fun v H1 S1 c1 o1 => ?_⟩
  have hv := o1.dat
  simp only [Da] at hv
  refine ⟨b, hv, ?_⟩
  cases b with
  | true =>
    rw [if_pos rfl]
    exact ⟨rfl, S1, stk, c1, o1.drop, q⟩
  | false =>
    rw [if_neg Bool.false_ne_true]
    exact q _ H1 S1 c1 (o1.drop.push (da_bl _ _))
theorem dx_or {b c : Bool} {rest : List Expr} (h : DX X e ρ ea ρ (.dat (.bool b))) (h2 : b = false → DX X e ρ (.BoolOp .Or (eb :: rest) pos) ρ (.dat (.bool c))) : DX X e ρ (.BoolOp .Or (ea :: eb :: rest) pos) ρ (.dat (.bool (b || c))) := by
  have h3 : PE X (.BoolOp .Or (eb :: rest) pos) (fun σ H Q => b = false ∧ tX X.K e ρ ρ (.dat (.bool c)) σ H Q) := ⟨fun pins s σ H Q I q => (h2 q.1).run pins s σ H Q I q.2⟩
  refine PE.mono (pe_or h h3) fun σ H Q ⟨S, stk, c0, o, q⟩ => ⟨S, stk, c0, o, fun v H1 S1 c1 o1 => ?_⟩
  have hv := o1.dat
  simp only [Da] at hv
  refine ⟨b, hv, ?_⟩
  cases b with
  | true =>
    rw [if_pos rfl]
    exact q _ H1 S1 c1 (o1.drop.push (da_bl _ _))
  | false =>
    rw [if_neg Bool.false_ne_true]
    exact ⟨rfl, S1, stk, c1, o1.drop, q⟩
theorem dx_if {b : Bool} {k1 k2 : Kd} (h : DT X e ρ ec ρ b) (h1 : b = true → DX X e ρ ea ρ1 k1) (h2 : b = false → DX X e ρ eb ρ2 k2) : DX X e ρ (.IfExp ec ea eb pos) (if b = true then ρ1 else ρ2) (if b = true then k1 else k2) := by
  have h3 : PE X ea (fun σ H Q => b = true ∧ tX X.K e ρ ρ1 k1 σ H Q) := ⟨fun pins s σ H Q I q => (h1 q.1).run pins s σ H Q I q.2⟩
  have h4 : PE X eb (fun σ H Q => b = false ∧ tX X.K e ρ ρ2 k2 σ H Q) := ⟨fun pins s σ H Q I q => (h2 q.1).run pins s σ H Q I q.2⟩
  refine PE.mono (pe_ifExp h h3 h4) fun σ H Q ⟨S, stk, c0, o, q⟩ => ⟨S, stk, c0, o, fun H1 S1 c1 o1 => ?_⟩
  cases b with
  | true =>
    rw [if_pos rfl]
    exact ⟨rfl, S1, stk, c1, o1, q⟩
  | false =>
    rw [if_neg Bool.false_ne_true]
    exact ⟨rfl, S1, stk, c1, o1, q⟩
/-- .. both ways leaving the slots -/
theorem dx_ifP {b : Bool} {d1 d2 : PyData} (h : DT X e ρ ec ρ b) (h1 : b = true → DX X e ρ ea ρ (.dat d1)) (h2 : b = false → DX X e ρ eb ρ (.dat d2)) : DX X e ρ (.IfExp ec ea eb pos) ρ (.dat (if b = true then d1 else d2)) := by
  have h := dx_if (pos := pos) h h1 h2
  cases b <;> exact h
/-- two comparisons in a chain, of ints -/
theorem dx_chain {op op' : CmpOp} {p p' : Int → Int → Bool} {i j l : Int} (ho : OpR X (compareOp op) (rI0 fun i j => .bl (p i j))) (ho' : OpR X (compareOp op') (rI0 fun i j => .bl (p' i j)))
    (ha : DX X e ρ ea ρ (.dat (.int i))) (hb : DX X e ρ eb ρ (.dat (.int j))) (hc : DX X e ρ ec ρ (.dat (.int l))) (hm : lastMarks [op, op'] [eb, ec] = false := by with_unfolding_all rfl) : DX X e ρ (.Compare ea [op, op'] [eb, ec] pos) ρ (.dat (.bool (p i j && p' j l))) := by
  refine PE.mono (pe_chain ho ho' ha hb hc hm) fun σ H Q ⟨S, stk, c0, o, q⟩ => ⟨S, stk, c0, o, fun x H1 S1 c1 o1 => ⟨S1, (.dat (.int i), x) :: stk, c1, o1, fun y H2 S2 c2 o2 => ?_⟩⟩
  have hx := o2.drop.dat
  have hy := o2.dat
  simp only [Da] at hx hy
  refine ⟨i, j, hx, hy, p i j, rfl, ?_⟩
  cases hp : p i j with
  | false =>
    rw [hp] at q
    exact q _ H2 S2 c2 (o2.drop.drop.push (da_bl _ _))
  | true =>
    rw [hp] at q
    refine ⟨S2, stk, c2, o2.drop.drop, fun z H3 S3 c3 o3 => ?_⟩
    have hz := o3.dat
    simp only [Da] at hz
    exact ⟨j, l, hy, hz, q _ H3 S3 c3 (o3.drop.push (da_bl _ _))⟩
theorem dt_chain {op op' : CmpOp} {p p' : Int → Int → Bool} {i j l : Int} (ho : OpR X (compareOp op) (rI0 fun i j => .bl (p i j))) (ho' : OpR X (compareOp op') (rI0 fun i j => .bl (p' i j)))
    (ha : DX X e ρ ea ρ (.dat (.int i))) (hb : DX X e ρ eb ρ (.dat (.int j))) (hc : DX X e ρ ec ρ (.dat (.int l))) (hm : lastMarks [op, op'] [eb, ec] = false := by with_unfolding_all rfl) : DT X e ρ (.Compare ea [op, op'] [eb, ec] pos) ρ (p i j && p' j l) := by
  refine PT.mono (pt_chain ho ho' ha hb hc hm) fun σ H Q ⟨S, stk, c0, o, q⟩ => ⟨S, stk, c0, o, fun x H1 S1 c1 o1 => ⟨S1, (.dat (.int i), x) :: stk, c1, o1, fun y H2 S2 c2 o2 => ?_⟩⟩
  have hx := o2.drop.dat
  have hy := o2.dat
  simp only [Da] at hx hy
  refine ⟨i, j, hx, hy, p i j, rfl, ?_⟩
  cases hp : p i j with
  | false =>
    rw [hp] at q
    exact ⟨_, rfl, q H2 S2 c2 o2.drop.drop⟩
  | true =>
    rw [hp] at q
    refine ⟨S2, stk, c2, o2.drop.drop, fun z H3 S3 c3 o3 => ?_⟩
    have hz := o3.dat
    simp only [Da] at hz
    exact ⟨j, l, hy, hz, _, rfl, q H3 S3 c3 o3.drop⟩

/-! ### argument lists, displays -/
theorem da_nil : DA X e ρ [] ρ [] := PA.mono pa_nil fun σ H Q ⟨S, stk, c, o, q⟩ => q [] H S c trivial o
theorem da_cons {es : List Expr} {as : List Ar} (h : DX X e ρ ex ρ1 k) (t : DA X e ρ1 es ρ2 as) (hs : starEach (ex :: es) X.env = (false, eval ex X.env) :: starEach es X.env := by rfl) : DA X e ρ (ex :: es) ρ2 (.pu k :: as) :=
  PA.mono (pa_cons h t hs) fun σ H Q ⟨S, stk, c, o, q⟩ => ⟨S, stk, c, o, fun v H1 S1 c1 o1 => ⟨S1, (k, v) :: stk, c1, o1, fun vs H2 S2 c2 ok o2 => q (v :: vs) H2 S2 c2 ok (o2.perm List.perm_middle)⟩⟩
/-- the thing in the i-th slot itself is handed in -/
theorem da_sl (i : Nat) {x : Str} {p : Pos} {k : Kd} {es : List Expr} {as : List Ar} (t : DA X e ρ es ρ2 as) (hρ : ρ[i]? = some (some k) := by rfl) (hN : X.N[i]? = some x := by rfl) (hv : Vis X.env.scope x := by first | exact Or.inl rfl | exact Or.inr (Or.inl rfl) | exact Or.inr (Or.inr rfl))
    (hd : (x == ("__debug__" : Str)) = false := by decide) (hcd : (x == ("__classdict__" : Str)) = false := by decide) (hs : starEach (.Name x p :: es) X.env = (false, eval (.Name x p) X.env) :: starEach es X.env := by rfl) : DA X e ρ (.Name x p :: es) ρ2 (.sl i :: as) := by
  refine PA.mono (pa_cons (pe_var hN hv hd hcd) t hs) fun σ H Q ⟨S, stk, c, o, q⟩ => ?_
  obtain ⟨v, e1, _⟩ := o.focus c hρ
  exact ⟨v, e1, S, stk, c, o, fun vs H1 S1 c1 ok o1 => q (v :: vs) H1 S1 c1 ⟨e1, ok⟩ o1⟩
/-- data on the stack -/
abbrev pus (ds : List PyData) : List Ar := ds.map fun d => .pu (.dat d)
theorem pushed_pus : ∀ {ds : List PyData} {vs : List V} {σ : L2.St}, ArOk (pus ds) vs σ → pushed (pus ds) vs = (ds.map Kd.dat).zip vs ∧ ds.length = vs.length
  | [], [], _, _ => ⟨rfl, rfl⟩
  | d :: ds, v :: vs, σ, h => by
    obtain ⟨h1, h2⟩ := pushed_pus (ds := ds) (vs := vs) (σ := σ) h
    exact ⟨by simp [pushed, h1], by simp [h2]⟩
  | [], _ :: _, _, h => h.elim
  | _ :: _, [], _, h => h.elim
theorem dx_tup {es : List Expr} {ds : List PyData} {x1} (h : DA X e ρ es ρ1 (pus ds)) (hz : ds.length ≤ sizeLine := by show _ ≤ _; decide) : DX X e ρ (.Tuple es x1 pos) ρ1 (.dat (.tuple ds)) :=
  PE.mono (pe_tup h) fun σ H Q ⟨S, stk, c, o, q⟩ => ⟨S, stk, c, o, fun vs H1 S1 c1 ok o1 => by
    obtain ⟨e1, e2⟩ := pushed_pus ok
    rw [e1] at o1
    have hd := Os.dats e2 o1
    exact ⟨by omega, fun p hp => q _ _ _ c1 ((o1.drops (M := (ds.map Kd.dat).zip vs)).newTup hp hd)⟩⟩
/-- [a, b]: a list that is owned -/
theorem dx_lst {es : List Expr} {ds : List PyData} (h : DA X e ρ es ρ1 (pus ds)) (hz : ds.length ≤ sizeLine := by show _ ≤ _; decide) : DX X e ρ (.List es pos) ρ1 (.ml ds) :=
  PE.mono (pe_lst h) fun σ H Q ⟨S, stk, c, o, q⟩ => ⟨S, stk, c, o, fun vs H1 S1 c1 ok o1 => by
    obtain ⟨e1, e2⟩ := pushed_pus ok
    rw [e1] at o1
    have hd := Os.dats e2 o1
    refine ⟨by omega, fun p hp => q _ _ _ c1 ((o1.drops (M := (ds.map Kd.dat).zip vs)).newO hp (fun xs z => by cases z) ?_)⟩
    simp only [Ho]
    exact ⟨p, vs, rfl, rfl, upd_same, hd⟩⟩

/-! ### calls of built-ins by values, on data -/
def Rcd (K : PySem.W.Frag) (r : List V → Hp → VK → Prop) (ds : List PyData) (k : Kd) : Prop := ∀ (e : En) (L : En2) (H S : Hp) (vs : List V) (Q : VK), Os K e L H S → DaL K S ds vs → (∀ v H' S', Os K e ((k, v) :: L) H' S' → Q v H') → r vs H Q
theorem dx_cb {r : List V → Hp → VK → Prop} {ds : List PyData} {t : TA} {as : List Ar} {es : List Expr} (hp : PE X ex (tCB r (tAr X.K e ρ ρ1 (pus ds)))) (hr : Rcd X.K r ds k) : DX X e ρ ex ρ1 k :=
  PE.mono hp fun σ H Q ⟨S, stk, c, o, q⟩ => ⟨S, stk, c, o, fun vs H1 S1 c1 ok o1 => by
    obtain ⟨e1, e2⟩ := pushed_pus ok
    rw [e1] at o1
    exact hr e _ H1 S1 vs Q (o1.drops (M := (ds.map Kd.dat).zip vs)) (Os.dats e2 o1) fun v H' S' o' => q v H' S' c1 o'⟩
theorem dx_B {x : Str} {p : Pos} {id : String} {r : List V → Hp → VK → Prop} {ds : List PyData} {es : List Expr} (hc : CallR X (.builtin id) r) (hr : Rcd X.K r ds k) (hm : X.mg x = none) (hv : bootBuiltins x = some (.builtin id)) (ha : DA X e ρ (ea :: es) ρ1 (pus ds)) (hg : Gl X x := by rfl) (hn : x ≠ "__name__" := by decide) (hdb : (x == ("__debug__" : Str)) = false := by decide)
    (he : starEach (ea :: es) X.env = (false, eval ea X.env) :: starEach es X.env := by rfl) (hpl : (backTo pos (starEach es X.env)).any (·.1) = false := by rfl) : DX X e ρ (.Call (.Name x p) (ea :: es) [] pos) ρ1 k :=
  dx_cb (t := tNil) (as := []) (es := []) (pe_callB hc hg hm hv ha hn hdb he hpl) hr
theorem dx_Ty {x : Str} {p : Pos} {T : String} {r : List V → Hp → VK → Prop} {ds : List PyData} {es : List Expr} (hc : CallR X (.type T) r) (hr : Rcd X.K r ds k) (hm : X.mg x = none) (hv : bootBuiltins x = some (.type T)) (ha : DA X e ρ (ea :: es) ρ1 (pus ds)) (hg : Gl X x := by rfl) (hn : x ≠ "__name__" := by decide) (hdb : (x == ("__debug__" : Str)) = false := by decide)
    (he : starEach (ea :: es) X.env = (false, eval ea X.env) :: starEach es X.env := by rfl) (hpl : (backTo pos (starEach es X.env)).any (·.1) = false := by rfl) : DX X e ρ (.Call (.Name x p) (ea :: es) [] pos) ρ1 k :=
  dx_cb (t := tNil) (as := []) (es := []) (pe_callTy hc hg hm hv ha hn hdb he hpl) hr
end
end Ov
set_option Elab.async false
set_option linter.all false
set_option maxRecDepth 100000
set_option maxHeartbeats 1000000
namespace Ov
open PySem PySem.Spec PyProof.Rows L2

/-! ### data of a bounded depth -/
def shp (n : Nat) (d : PyData) : Bool := d.canLay0 && decide (d.depth ≤ n)
theorem shaped_eq (d : PyData) : SeqAt.shaped d = shp 64 d := rfl
theorem shp_all {n : Nat} : ∀ {ds : List PyData}, (PyData.canLayAll0 ds && decide (PyData.depthAll ds ≤ n)) = ds.all (shp n)
  | [] => by simp [PyData.canLayAll0, PyData.depthAll]
  | d :: ds => by
    have ih := shp_all (n := n) (ds := ds)
    rw [List.all_cons, ← ih]
    simp only [PyData.canLayAll0, PyData.depthAll, shp]
    rw [Bool.eq_iff_iff]
    simp only [Bool.and_eq_true, decide_eq_true_eq, Nat.max_le]
    constructor
    · rintro ⟨⟨h1, h2⟩, h3, h4⟩
      exact ⟨⟨h1, h3⟩, h2, h4⟩
    · rintro ⟨⟨h1, h2⟩, h3, h4⟩
      exact ⟨⟨h1, h3⟩, h2, h4⟩
@[simp] theorem shp_tuple {n : Nat} {ds : List PyData} : shp (n + 1) (.tuple ds) = ds.all (shp n) := by
  rw [← shp_all]
  simp only [shp, PyData.canLay0, PyData.depth]
  congr 1
  apply decide_eq_decide.mpr
  omega
@[simp] theorem shp_list {n : Nat} {ds : List PyData} : shp (n + 1) (.list ds) = ds.all (shp n) := by
  rw [← shp_all]
  simp only [shp, PyData.canLay0, PyData.depth]
  congr 1
  apply decide_eq_decide.mpr
  omega
@[simp] theorem shp_int {n : Nat} {i : Int} : shp n (.int i) = true := by simp [shp, PyData.canLay0, PyData.depth]
@[simp] theorem shp_bool {n : Nat} {i : Bool} : shp n (.bool i) = true := by simp [shp, PyData.canLay0, PyData.depth]
@[simp] theorem shp_none {n : Nat} : shp n .none = true := by simp [shp, PyData.canLay0, PyData.depth]
@[simp] theorem shp_str {n : Nat} {i : Str} : shp n (.str i) = PyData.strOk i := by simp [shp, PyData.canLay0, PyData.depth]

/-! ### items, slices -/
theorem atI_map {α β : Type} (f : α → β) (l : List α) (i : Int) : atI (l.map f) i = (atI l i).map f := by
  unfold atI
  rw [List.length_map]
  cases ixN l.length i with
  | none => rfl
  | some j => simp
theorem atI_bound {α : Type} {l : List α} {i : Int} {a : α} (h : atI l i = some a) : a ∈ l := by
  unfold atI at h
  cases e : ixN l.length i with
  | none => rw [e] at h; simp at h
  | some j =>
    rw [e] at h
    exact List.mem_of_getElem? (by simpa using h)
theorem DaL.atI {K : PySem.W.Frag} {S : Hp} {ds : List PyData} {xs : List V} {i : Int} {d : PyData} (h : DaL K S ds xs) (e : L2.atI ds i = some d) : ∃ v, L2.atI xs i = some v ∧ Da K S d v := by
  unfold L2.atI at e ⊢
  rw [h.len]
  cases q : ixN ds.length i with
  | none => rw [q] at e; simp at e
  | some j =>
    rw [q] at e
    obtain ⟨v, e1, e2⟩ := h.get (by simpa using e)
    exact ⟨v, by simpa using e1, e2⟩
def cut {α : Type} (xs : List α) (lo hi : Option Int) : List α := (xs.drop (HT.sIx xs.length 0 lo)).take (HT.sIx xs.length xs.length hi - HT.sIx xs.length 0 lo)
theorem cut_map {α β : Type} (f : α → β) (l : List α) (lo hi : Option Int) : cut (l.map f) lo hi = (cut l lo hi).map f := by
  unfold cut
  rw [List.length_map, List.map_take, List.map_drop]
theorem cut_len {α : Type} (l : List α) (lo hi : Option Int) : (cut l lo hi).length ≤ l.length := by
  unfold cut
  rw [List.length_take, List.length_drop]
  omega
theorem cutV_eq (xs : List V) (lo hi : Option Int) : cutV xs lo hi = cut xs lo hi := rfl
theorem DaL.cut {K : PySem.W.Frag} {S : Hp} {ds : List PyData} {xs : List V} (lo hi : Option Int) (h : DaL K S ds xs) : DaL K S (Ov.cut ds lo hi) (cutV xs lo hi) := by
  rw [cutV_eq]
  unfold Ov.cut
  rw [h.len]
  exact (h.drop _).take _
section
variable {X : Cx} {e : En} {ρ ρ1 ρ2 ρ3 : Rho} {ea eb ec ex : Expr} {pos : Pos} {k : Kd}
theorem mem_da {K : PySem.W.Frag} {S : Hp} {ds : List PyData} {v : V} : Da K S (.list ds) v ↔ ∃ a xs, v = .ref a ∧ S a = some (.lst xs) ∧ DaL K S ds xs := by simp only [Da]
theorem mem_dat {K : PySem.W.Frag} {S : Hp} {ds : List PyData} {v : V} : Da K S (.tuple ds) v ↔ ∃ a xs, v = .ref a ∧ SqT K S a xs ∧ DaL K S ds xs := by simp only [Da]
theorem PlainIx.of (h : ∀ o i, subscripted eb false o i = operate [o, i] (getItem o i)) : PlainIx eb := h
theorem dx_ixL {ds : List PyData} {i : Int} {d : PyData} (ha : DX X e ρ ea ρ1 (.dat (.list ds))) (hb : DX X e ρ1 eb ρ2 (.dat (.int i))) (h : atI ds i = some d) (hs : PlainIx eb := by exact fun _ _ => rfl) : DX X e ρ (.Subscript ea eb pos) ρ2 (.dat d) :=
  dx_bin (pe_ix ix_list ha hb hs) fun e L H S x y Q o h1 h2 q => by
    obtain ⟨a, xs, rfl, e2, hd⟩ := mem_da.mp h1
    simp only [Da] at h2
    obtain ⟨v, e3, hv⟩ := hd.atI h
    exact ⟨a, xs, i, v, rfl, h2, SqL.of (o.same _ _ e2), e3, q v H S (o.push hv)⟩
theorem dx_ixT {ds : List PyData} {i : Int} {d : PyData} (ha : DX X e ρ ea ρ1 (.dat (.tuple ds))) (hb : DX X e ρ1 eb ρ2 (.dat (.int i))) (h : atI ds i = some d) (hs : PlainIx eb := by exact fun _ _ => rfl) : DX X e ρ (.Subscript ea eb pos) ρ2 (.dat d) :=
  dx_bin (pe_ix ix_tup ha hb hs) fun e L H S x y Q o h1 h2 q => by
    obtain ⟨a, xs, rfl, e2, hd⟩ := mem_dat.mp h1
    simp only [Da] at h2
    obtain ⟨v, e3, hv⟩ := hd.atI h
    exact ⟨a, xs, i, v, rfl, h2, same_t o.same e2, e3, q v H S (o.push hv)⟩
/-- a slice's part -/
def tP (K : PySem.W.Frag) (e : En) (ρ ρ' : Rho) (i : Option Int) : TO := fun σ H Q => ∃ S stk, Cov ρ σ ∧ Os K e (stk ++ ents ρ σ) H S ∧ ∀ H' S', Cov ρ' σ → Os K e (stk ++ ents ρ' σ) H' S' → Q i H'
def DP (X : Cx) (e : En) (ρ : Rho) (ex : Option Expr) (ρ' : Rho) (i : Option Int) : Prop := PO X ex (tP X.K e ρ ρ' i)
theorem dp_no : DP X e ρ none ρ none := ⟨fun pins s σ H Q I ⟨S, stk, c, o, q⟩ => po_none.run pins s σ H Q I (q H S c o)⟩
theorem dp_so {i : Int} (h : DX X e ρ ex ρ1 (.dat (.int i))) : DP X e ρ (some ex) ρ1 (some i) := ⟨fun pins s σ H Q I ⟨S, stk, c, o, q⟩ => (po_some h).run pins s σ H Q I ⟨S, stk, c, o, fun v H1 S1 c1 o1 => by
  have h := o1.dat
  simp only [Da] at h
  exact ⟨i, h, q H1 S1 c1 o1.drop⟩⟩⟩
theorem dx_slL {lo hi : Option Expr} {i j : Option Int} {ds : List PyData} {p2 : Pos} (ha : DX X e ρ ex ρ1 (.dat (.list ds))) (hl : DP X e ρ1 lo ρ2 i) (hh : DP X e ρ2 hi ρ3 j) : DX X e ρ (.Subscript ex (.Slice lo hi none p2) pos) ρ3 (.ml (cut ds i j)) :=
  PE.mono (pe_slice sl_list ha hl hh) fun σ H Q ⟨S, stk, c, o, q⟩ => ⟨S, stk, c, o, fun x H1 S1 c1 o1 => ⟨S1, (.dat (.list ds), x) :: stk, c1, o1, fun H2 S2 c2 o2 => ⟨S2, (.dat (.list ds), x) :: stk, c2, o2, fun H3 S3 c3 o3 => by
    obtain ⟨a, xs, rfl, e2, hd⟩ := mem_da.mp o3.dat
    refine ⟨a, xs, rfl, SqL.of (o3.same _ _ e2), fun p hp => q _ _ _ c3 (o3.drop.newO hp (fun xs z => by cases z) ?_)⟩
    simp only [Ho]
    exact ⟨p, _, rfl, rfl, upd_same, hd.cut i j⟩⟩⟩⟩
theorem dx_slT {lo hi : Option Expr} {i j : Option Int} {ds : List PyData} {p2 : Pos} (ha : DX X e ρ ex ρ1 (.dat (.tuple ds))) (hl : DP X e ρ1 lo ρ2 i) (hh : DP X e ρ2 hi ρ3 j) : DX X e ρ (.Subscript ex (.Slice lo hi none p2) pos) ρ3 (.dat (.tuple (cut ds i j))) :=
  PE.mono (pe_slice sl_tupA ha hl hh) fun σ H Q ⟨S, stk, c, o, q⟩ => ⟨S, stk, c, o, fun x H1 S1 c1 o1 => ⟨S1, (.dat (.tuple ds), x) :: stk, c1, o1, fun H2 S2 c2 o2 => ⟨S2, (.dat (.tuple ds), x) :: stk, c2, o2, fun H3 S3 c3 o3 => by
    obtain ⟨a, xs, rfl, e2, hd⟩ := mem_dat.mp o3.dat
    refine ⟨a, xs, rfl, same_t o3.same e2, fun hw => q _ _ S3 c3 ?_, fun _ p hp => q _ _ _ c3 (o3.drop.newTup hp (hd.cut i j))⟩
    have z : cut ds i j = ds := by
      unfold cut
      rw [← hd.len, hw.1, hw.2]
      simp [hd.len]
    rw [z]
    exact o3⟩⟩⟩
/-- the script's slice -/
theorem dx_slS {lo hi : Option Expr} {i j : Option Int} {ns : List Int} {p p2 : Pos} {x : Str} (n : Nat) (hρ : ρ[n]? = some (some (.scr ns))) (hN : X.N[n]? = some x) (hv : Vis X.env.scope x) (hd : (x == ("__debug__" : Str)) = false) (hcd : (x == ("__classdict__" : Str)) = false)
    (hl : DP X e ρ lo ρ i) (hh : DP X e ρ hi ρ j) : DX X e ρ (.Subscript (.Name x p) (.Slice lo hi none p2) pos) ρ (.ml ((cut ns i j).map .int)) :=
  PE.mono (pe_slice sl_list (pe_var hN hv hd hcd) hl hh) fun σ H Q ⟨S, stk, c, o, q⟩ => by
    obtain ⟨v, e1, _⟩ := o.focus c hρ
    refine ⟨v, e1, S, stk, c, o, fun H2 S2 c2 o2 => ⟨S2, stk, c2, o2, fun H3 S3 c3 o3 => ?_⟩⟩
    obtain ⟨v', e1', o4, _⟩ := o3.focus c3 hρ
    rw [e1] at e1'
    cases e1'
    obtain ⟨f, hf⟩ := o4.ho
    simp only [Ho] at hf
    obtain ⟨a, rfl, rfl, hs⟩ := hf
    refine ⟨a, _, rfl, o3.same.seq hs, fun p hp => q _ _ _ c3 (o3.newO hp (fun xs z => by cases z) ?_)⟩
    simp only [Ho]
    refine ⟨p, _, rfl, rfl, upd_same, ?_⟩
    rw [cutV_eq, cut_map]
    exact DaL.of_ints _
/-! ### joining -/
theorem dx_catL {as bs : List PyData} (ha : DX X e ρ ea ρ1 (.dat (.list as))) (hb : DX X e ρ1 eb ρ2 (.dat (.list bs))) (hz : as.length + bs.length ≤ sizeLine) : DX X e ρ (.BinOp ea .Add eb pos) ρ2 (.ml (as ++ bs)) :=
  dx_op op_cat (fun e L H S x y Q o h1 h2 q => by
    obtain ⟨a, xs, rfl, e1, hd⟩ := mem_da.mp h1
    obtain ⟨b, ys, rfl, e2, hd2⟩ := mem_da.mp h2
    refine ⟨a, b, xs, ys, rfl, rfl, o.same _ _ e1, o.same _ _ e2, by rw [hd.len, hd2.len]; exact hz, fun p hp => q _ _ S (o.newO hp (fun xs z => by cases z) ?_)⟩
    simp only [Ho]
    exact ⟨p, _, rfl, rfl, upd_same, hd.append hd2⟩) ha hb
theorem dx_catT {as bs : List PyData} (ha : DX X e ρ ea ρ1 (.dat (.tuple as))) (hb : DX X e ρ1 eb ρ2 (.dat (.tuple bs))) (hz : as.length + bs.length ≤ sizeLine) : DX X e ρ (.BinOp ea .Add eb pos) ρ2 (.dat (.tuple (as ++ bs))) :=
  dx_op op_catA (fun e L H S x y Q o h1 h2 q => by
    obtain ⟨a, xs, rfl, e1, hd⟩ := mem_dat.mp h1
    obtain ⟨b, ys, rfl, e2, hd2⟩ := mem_dat.mp h2
    have hl := hd.len
    have hl2 := hd2.len
    refine ⟨a, b, xs, ys, rfl, rfl, same_t o.same e1, same_t o.same e2, by rw [hl, hl2]; exact hz, fun z => ?_, fun _ z => ?_, fun _ _ p hp => q _ _ _ (o.newTup hp (hd.append hd2))⟩
    · have z' : as = [] := by cases as with | nil => rfl | cons a as => rw [z] at hl; simp at hl
      subst z'
      exact q _ _ S (o.push h2)
    · have z' : bs = [] := by cases bs with | nil => rfl | cons a as => rw [z] at hl2; simp at hl2
      subst z'
      exact q _ _ S (o.push (by rw [List.append_nil]; exact h1))) ha hb
theorem dx_repL {as : List PyData} {n : Int} (ha : DX X e ρ ea ρ1 (.dat (.list as))) (hb : DX X e ρ1 eb ρ2 (.dat (.int n))) (h1 : -(2 ^ 63) ≤ n) (h2 : n < 2 ^ 63) (hz : as.length * n.toNat ≤ sizeLine) : DX X e ρ (.BinOp ea .Mult eb pos) ρ2 (.ml (List.replicate n.toNat as).flatten) :=
  dx_op op_rep (fun e L H S x y Q o h1' h2' q => by
    obtain ⟨a, xs, rfl, e1, hd⟩ := mem_da.mp h1'
    simp only [Da] at h2'
    refine ⟨a, n, xs, rfl, h2', o.same _ _ e1, h1, h2, by rw [hd.len]; exact hz, fun p hp => q _ _ S (o.newO hp (fun xs z => by cases z) ?_)⟩
    simp only [Ho]
    refine ⟨p, _, rfl, rfl, upd_same, ?_⟩
    generalize n.toNat = m
    induction m with
    | zero => simp [DaL]
    | succ m ih => simp only [List.replicate_succ, List.flatten_cons]; exact hd.append ih) ha hb
/-! ### is it in there -/
theorem inV_da {K : PySem.W.Frag} {S : Hp} {d d' : PyData} {v v' : V} (h : Da K S d v) (h' : Da K S d' v') (hf : flatV v = true) (hf' : flatV v' = true) : eqV v' v = PyData.eqv d' d := by
  cases d <;> cases d' <;> simp only [Da] at h h' <;> first
    | (subst h; subst h'; simp [eqV, PyData.eqv]; done)
    | (obtain ⟨_, _, h, _⟩ := h; subst h; cases hf; done)
    | (obtain ⟨_, _, h', _⟩ := h'; subst h'; cases hf'; done)
def flatD : PyData → Bool
  | .none => true
  | .bool _ => true
  | .int _ => true
  | .str _ => true
  | _ => false
theorem flat_da {K : PySem.W.Frag} {S : Hp} {d : PyData} {v : V} (h : Da K S d v) (f : flatD d = true) : flatV v = true := by
  cases d <;> simp only [Da] at h <;> first | (subst h; rfl) | cases f
theorem flats_da {K : PySem.W.Frag} {S : Hp} : ∀ {ds : List PyData} {xs : List V}, DaL K S ds xs → ds.all flatD = true → xs.all flatV = true
  | [], xs, h, _ => by simp only [DaL] at h; subst h; rfl
  | d :: ds, xs, h, f => by
    simp only [DaL] at h
    obtain ⟨v, vs, rfl, h1, h2⟩ := h
    simp only [List.all_cons, Bool.and_eq_true] at f ⊢
    exact ⟨flat_da h1 f.1, flats_da h2 f.2⟩
def isIn (d : PyData) (ds : List PyData) : Bool := ds.any fun z => PyData.eqv z d
theorem inV_das {K : PySem.W.Frag} {S : Hp} {d : PyData} {v : V} (h : Da K S d v) (hf : flatD d = true) : ∀ {ds : List PyData} {xs : List V}, DaL K S ds xs → ds.all flatD = true → inV v xs = isIn d ds
  | [], xs, h, _ => by simp only [DaL] at h; subst h; rfl
  | c :: ds, xs, h2, f => by
    simp only [DaL] at h2
    obtain ⟨u, vs, rfl, h3, h4⟩ := h2
    simp only [List.all_cons, Bool.and_eq_true] at f
    have ih := inV_das h hf h4 f.2
    simp only [inV, isIn, List.any_cons] at ih ⊢
    rw [ih, inV_da h h3 (flat_da h hf) (flat_da h3 f.1)]
theorem in_seq {K : PySem.W.Frag} {S H : Hp} {c : Bool} {ds : List PyData} {v : V} (s : Same S H) (h : Da K S (if c then .tuple ds else .list ds) v) : ∃ p xs, v = .ref p ∧ (SqL K H p xs ∨ SqT K H p xs) ∧ DaL K S ds xs := by
  cases c with
  | true =>
    obtain ⟨a, xs, rfl, e1, hd⟩ := mem_dat.mp (show Da K S (.tuple ds) v from h)
    exact ⟨a, xs, rfl, .inr (same_t s e1), hd⟩
  | false =>
    obtain ⟨a, xs, rfl, e1, hd⟩ := mem_da.mp (show Da K S (.list ds) v from h)
    exact ⟨a, xs, rfl, .inl (SqL.of (s _ _ e1)), hd⟩
/-- a sequence: a list or a tuple -/
abbrev sq (c : Bool) (ds : List PyData) : PyData := if c then .tuple ds else .list ds
theorem r2_inF {c neg : Bool} {d : PyData} {ds : List PyData} {K : PySem.W.Frag} (hf : flatD d = true) (hfs : ds.all flatD = true) : R2d K (rIn K neg) d (sq c ds) (.dat (.bool (if neg then !isIn d ds else isIn d ds))) := fun e L H S x y Q o h1 h2 q => by
  obtain ⟨p, xs, rfl, h3, hd⟩ := in_seq o.same h2
  refine ⟨p, xs, rfl, h3, flat_da h1 hf, flats_da hd hfs, ?_⟩
  rw [inV_das h1 hf hd hfs]
  exact q _ H S (o.push (da_bl _ _))
section
variable {d : PyData} {ds : List PyData}
theorem dt_inFT (ha : DX X e ρ ea ρ1 (.dat d)) (hb : DX X e ρ1 eb ρ2 (.dat (.tuple ds))) (hf : flatD d = true) (hfs : ds.all flatD = true) (hm : behindInMarks .In eb = false := by rfl) : DT X e ρ (.Compare ea [.In] [eb] pos) ρ2 (isIn d ds) := dt_cmp op_in_seq hm (r2_inF (c := true) (neg := false) hf hfs) ha hb
theorem dt_notInFT (ha : DX X e ρ ea ρ1 (.dat d)) (hb : DX X e ρ1 eb ρ2 (.dat (.tuple ds))) (hf : flatD d = true) (hfs : ds.all flatD = true) (hm : behindInMarks .NotIn eb = false := by rfl) : DT X e ρ (.Compare ea [.NotIn] [eb] pos) ρ2 (!isIn d ds) := dt_cmp op_notIn_seq hm (r2_inF (c := true) (neg := true) hf hfs) ha hb
theorem dt_inFL (ha : DX X e ρ ea ρ1 (.dat d)) (hb : DX X e ρ1 eb ρ2 (.dat (.list ds))) (hf : flatD d = true) (hfs : ds.all flatD = true) (hm : behindInMarks .In eb = false := by rfl) : DT X e ρ (.Compare ea [.In] [eb] pos) ρ2 (isIn d ds) := dt_cmp op_in_seq hm (r2_inF (c := false) (neg := false) hf hfs) ha hb
theorem dt_notInFL (ha : DX X e ρ ea ρ1 (.dat d)) (hb : DX X e ρ1 eb ρ2 (.dat (.list ds))) (hf : flatD d = true) (hfs : ds.all flatD = true) (hm : behindInMarks .NotIn eb = false := by rfl) : DT X e ρ (.Compare ea [.NotIn] [eb] pos) ρ2 (!isIn d ds) := dt_cmp op_notIn_seq hm (r2_inF (c := false) (neg := true) hf hfs) ha hb
theorem dx_inFT (ha : DX X e ρ ea ρ1 (.dat d)) (hb : DX X e ρ1 eb ρ2 (.dat (.tuple ds))) (hf : flatD d = true) (hfs : ds.all flatD = true) (hm : behindInMarks .In eb = false := by rfl) : DX X e ρ (.Compare ea [.In] [eb] pos) ρ2 (.dat (.bool (isIn d ds))) := dx_cmp op_in_seq hm (r2_inF (c := true) (neg := false) hf hfs) ha hb
theorem dx_inFL (ha : DX X e ρ ea ρ1 (.dat d)) (hb : DX X e ρ1 eb ρ2 (.dat (.list ds))) (hf : flatD d = true) (hfs : ds.all flatD = true) (hm : behindInMarks .In eb = false := by rfl) : DX X e ρ (.Compare ea [.In] [eb] pos) ρ2 (.dat (.bool (isIn d ds))) := dx_cmp op_in_seq hm (r2_inF (c := false) (neg := false) hf hfs) ha hb
theorem r2_inD {K : PySem.W.Frag} (sd : SeqAt.shaped d = true) (ss : SeqAt.shaped (.list ds) = true) : R2d K (rInD K) d (.list ds) (.dat (.bool (isIn d ds))) := fun e L H S x y Q o h1 h2 q =>
  ⟨d, ds, Da.dp o.same d x h1, Da.dp o.same _ y h2, sd, ss, q _ H S (o.push (da_bl _ _))⟩
theorem r2_notInD {K : PySem.W.Frag} (sd : SeqAt.shaped d = true) (ss : SeqAt.shaped (.list ds) = true) : R2d K (rNotInD K) d (.list ds) (.dat (.bool (!isIn d ds))) := fun e L H S x y Q o h1 h2 q =>
  ⟨d, ds, Da.dp o.same d x h1, Da.dp o.same _ y h2, sd, ss, q _ H S (o.push (da_bl _ _))⟩
theorem dt_inD {lv : Nat} (hr : Room (lv + 1) X.A) (ha : DX X e ρ ea ρ1 (.dat d)) (hb : DX X e ρ1 eb ρ2 (.dat (.list ds))) (sd : SeqAt.shaped d = true) (ss : SeqAt.shaped (.list ds) = true) (hm : behindInMarks .In eb = false := by rfl) : DT X e ρ (.Compare ea [.In] [eb] pos) ρ2 (isIn d ds) := dt_cmp (op_inD (by have := hr.un; omega)) hm (r2_inD sd ss) ha hb
theorem dt_notInD {lv : Nat} (hr : Room (lv + 1) X.A) (ha : DX X e ρ ea ρ1 (.dat d)) (hb : DX X e ρ1 eb ρ2 (.dat (.list ds))) (sd : SeqAt.shaped d = true) (ss : SeqAt.shaped (.list ds) = true) (hm : behindInMarks .NotIn eb = false := by rfl) : DT X e ρ (.Compare ea [.NotIn] [eb] pos) ρ2 (!isIn d ds) := dt_cmp (op_notInD (by have := hr.un; omega)) hm (r2_notInD sd ss) ha hb
theorem dx_inD {lv : Nat} (hr : Room (lv + 1) X.A) (ha : DX X e ρ ea ρ1 (.dat d)) (hb : DX X e ρ1 eb ρ2 (.dat (.list ds))) (sd : SeqAt.shaped d = true) (ss : SeqAt.shaped (.list ds) = true) (hm : behindInMarks .In eb = false := by rfl) : DX X e ρ (.Compare ea [.In] [eb] pos) ρ2 (.dat (.bool (isIn d ds))) := dx_cmp (op_inD (by have := hr.un; omega)) hm (r2_inD sd ss) ha hb
end
/-! ### built-ins -/
theorem dx_lenT {ds : List PyData} {x : Str} (ha : DX X e ρ ea ρ1 (.dat (.tuple ds))) (hm : X.mg "len" = none) {p : Pos} (hg : Gl X "len" := by rfl) (he : starEach [ea] X.env = (false, eval ea X.env) :: starEach [] X.env := by rfl) : DX X e ρ (.Call (.Name "len" p) [ea] [] pos) ρ1 (.dat (.int (ds.length : Nat))) :=
  dx_B (ds := [.tuple ds]) call_len_seq (fun e L H S vs Q o h q => by
    simp only [DaL] at h
    obtain ⟨v, _, rfl, h, rfl⟩ := h
    obtain ⟨a, xs, rfl, e1, hd⟩ := mem_dat.mp h
    refine ⟨a, xs, rfl, .inr (same_t o.same e1), ?_⟩
    rw [hd.len]
    exact q _ H S (o.push (da_int _ _))) hm PySem.boot_len (da_cons ha da_nil he) hg (by decide) (by decide) he (by rfl)
theorem dx_lenL {ds : List PyData} (ha : DX X e ρ ea ρ1 (.dat (.list ds))) (hm : X.mg "len" = none) {p : Pos} (hg : Gl X "len" := by rfl) (he : starEach [ea] X.env = (false, eval ea X.env) :: starEach [] X.env := by rfl) : DX X e ρ (.Call (.Name "len" p) [ea] [] pos) ρ1 (.dat (.int (ds.length : Nat))) :=
  dx_B (ds := [.list ds]) call_len_seq (fun e L H S vs Q o h q => by
    simp only [DaL] at h
    obtain ⟨v, _, rfl, h, rfl⟩ := h
    obtain ⟨a, xs, rfl, e1, hd⟩ := mem_da.mp h
    refine ⟨a, xs, rfl, .inl (SqL.of (o.same _ _ e1)), ?_⟩
    rw [hd.len]
    exact q _ H S (o.push (da_int _ _))) hm PySem.boot_len (da_cons ha da_nil he) hg (by decide) (by decide) he (by rfl)
end
end Ov
set_option Elab.async false
set_option linter.all false
set_option maxRecDepth 100000
set_option maxHeartbeats 1000000
namespace Ov
open PySem PySem.Spec PyProof.Rows L2
section
variable {X : Cx} {e : En} {ρ ρ1 ρ2 ρ3 : Rho} {ea eb ec ex tg : Expr} {pos : Pos} {k : Kd}
/-! ### targets -/
theorem slots.refl {ts : List Nat} {σ : L2.St} : slots ts σ σ := ⟨rfl, fun _ _ => rfl⟩
theorem dg_name (i : Nat) {x : Str} {p : Pos} (hN : X.N.Nodup) (hi : i < ρ.length := by decide) (hx : X.N[i]? = some x := by rfl) (hv : Loc X.env.scope x := by first | exact Or.inl rfl | exact Or.inr rfl) (hf : X.fn x = true ∨ X.env.scope.names.lookup x = some .local := by first | exact .inl rfl | exact .inr rfl | assumption) : DG X e ρ (.Name x p) k (ρ.set i (some k)) [i] :=
  PG.mono (pg_name hN hx hv hf) fun v σ H Q ⟨S, stk, c, o, q⟩ => by
    obtain ⟨o', c'⟩ := o.store (L := stk) hi c
    exact q _ H S ⟨by rw [List.length_set], fun j hj => List.getElem?_set_ne (fun z => hj (by simp [z]))⟩ c' o'
theorem dgs_nil : DGs X e ρ [] [] ρ [] := PGs.mono pgs_nil fun vs σ H Q ⟨S, stk, c, h, o, q⟩ => by
  simp only [DaL] at h
  exact ⟨h, q σ H S slots.refl c o⟩
theorem dgs_cons {es : List Expr} {d : PyData} {ds : List PyData} {ts us : List Nat} (h1 : DG X e ρ ex (.dat d) ρ1 ts) (h2 : DGs X e ρ1 es ds ρ2 us) (hs : (assignEach (ex :: es) X.env).map (·.2) = assign ex X.env :: (assignEach es X.env).map (·.2) := by rfl) : DGs X e ρ (ex :: es) (d :: ds) ρ2 (ts ++ us) :=
  PGs.mono (pgs_cons h1 h2 hs) fun vs σ H Q ⟨S, stk, c, h, o, q⟩ => by
    simp only [DaL] at h
    obtain ⟨v, vs', rfl, hv, hs⟩ := h
    have o1 := (Os.pushs hs o).push hv
    rw [← List.append_assoc] at o1
    refine ⟨v, vs', rfl, S, (ds.map Kd.dat).zip vs' ++ stk, c, o1, fun σ1 H1 S1 s1 c1 o2 => ?_⟩
    rw [List.append_assoc] at o2
    have hl : ds.length = vs'.length := hs.len.symm
    refine ⟨S1, stk, c1, Os.dats hl o2, o2.drops, fun σ2 H2 S2 s2 c2 o3 => q σ2 H2 S2 ⟨s2.1.trans s1.1, fun j hj => ?_⟩ c2 o3⟩
    simp only [List.mem_append, not_or] at hj
    exact (s2.2 j hj.2).trans (s1.2 j hj.1)
theorem dg_tup {es : List Expr} {ds : List PyData} {ts : List Nat} {kk : Nat} (hc : X.calm = true) (h : DGs X e ρ es ds ρ1 ts) (hn : (assignEach es X.env).length = ds.length := by rfl) (hst : (assignEach es X.env).findIdx? (·.1) = none := by rfl) : DG X e ρ (.Tuple es kk pos) (.dat (.tuple ds)) ρ1 ts :=
  PG.mono (pg_tup hc h hn hst) fun v σ H Q ⟨S, stk, c, o, q⟩ => by
    obtain ⟨a, xs, rfl, h1, hd⟩ := mem_dat.mp o.dat
    exact ⟨a, xs, rfl, same_t o.same h1, hd.len, S, stk, c, hd, o.drop, q⟩

/-! ### wiping -/
def wipeR (ρ : Rho) : List Nat → Rho
  | [] => ρ
  | v :: vs => (wipeR ρ vs).set v none
theorem wipe_len (ρ : Rho) : ∀ vs, (wipeR ρ vs).length = ρ.length
  | [] => rfl
  | v :: vs => by unfold wipeR; rw [List.length_set, wipe_len]
theorem Os.wipe {K : PySem.W.Frag} {L : En2} {H S : Hp} {σ : L2.St} : ∀ (vs : List Nat), Cov ρ σ → Os K e (L ++ ents ρ σ) H S → Os K e (L ++ ents (wipeR ρ vs) (L2.wipe σ vs)) H S ∧ Cov (wipeR ρ vs) (L2.wipe σ vs)
  | [], c, o => ⟨o, c⟩
  | v :: vs, c, o => by
    obtain ⟨o1, c1⟩ := Os.wipe vs c o
    obtain ⟨o2, c2⟩ := o1.forget v c1
    by_cases hv : v < (wipeR ρ vs).length
    · obtain ⟨e3, c3⟩ := ents_free (x := none) c2 (set_self_none hv)
      refine ⟨?_, c3⟩
      show Os K e (L ++ ents ((wipeR ρ vs).set v none) ((L2.wipe σ vs).set v none)) H S
      rw [e3]
      exact o2
    · have e1 : (L2.wipe σ vs).set v none = L2.wipe σ vs := List.set_eq_of_length_le (by rw [← c1.len]; omega)
      show Os K e (L ++ ents ((wipeR ρ vs).set v none) ((L2.wipe σ vs).set v none)) H S ∧ Cov ((wipeR ρ vs).set v none) ((L2.wipe σ vs).set v none)
      rw [e1]
      exact ⟨o2, c2⟩
theorem wipe_get {σ : L2.St} {j : Nat} : ∀ {vs : List Nat}, (L2.wipe σ vs)[j]? = if j ∈ vs then (if j < σ.length then some none else none) else σ[j]?
  | [] => by simp [L2.wipe]
  | v :: vs => by
    unfold L2.wipe
    by_cases hv : v = j
    · subst hv
      by_cases hl : v < σ.length
      · rw [List.getElem?_set_self (by rw [wipe_length]; exact hl)]
        simp [hl]
      · rw [List.getElem?_eq_none (by rw [List.length_set, wipe_length]; omega)]
        simp [hl]
    · rw [List.getElem?_set_ne hv, wipe_get]
      simp [Ne.symm hv]
theorem wipe_of_slots {σ σ2 : L2.St} {ts vs : List Nat} (h : slots ts (L2.wipe σ vs) σ2) (hs : ∀ t ∈ ts, t ∈ vs) : L2.wipe σ2 vs = L2.wipe σ vs := by
  apply List.ext_getElem?
  intro j
  rw [wipe_get, wipe_get]
  have hl : σ2.length = σ.length := by rw [h.1, wipe_length]
  rw [hl]
  by_cases hj : j ∈ vs
  · simp [hj]
  · have h2 := h.2 j fun z => hj (hs j z)
    rw [wipe_get] at h2
    simp [hj] at h2 ⊢
    exact h2
/-- the entries that a wiping hides -/
theorem ents_hide : ∀ {ρ : Rho} {σ : L2.St} (vs : List Nat), Cov ρ σ → ∃ M, (ents ρ σ).Perm (M ++ ents (wipeR ρ vs) (L2.wipe σ vs)) ∧ Cov (wipeR ρ vs) (L2.wipe σ vs)
  | ρ, σ, [], c => ⟨[], .refl _, c⟩
  | ρ, σ, v :: vs, c => by
    obtain ⟨M, p, c1⟩ := ents_hide vs c
    show ∃ M, (ents ρ σ).Perm (M ++ ents ((wipeR ρ vs).set v none) ((L2.wipe σ vs).set v none)) ∧ Cov ((wipeR ρ vs).set v none) ((L2.wipe σ vs).set v none)
    by_cases hv : v < (wipeR ρ vs).length
    · cases h : (wipeR ρ vs)[v]? with
      | none => exact absurd (List.getElem?_eq_none_iff.mp h) (by omega)
      | some o =>
        cases o with
        | none =>
          have e1 : (wipeR ρ vs).set v none = wipeR ρ vs := by
            apply List.ext_getElem?
            intro j
            by_cases hj : v = j
            · subst hj
              rw [List.getElem?_set_self hv, h]
            · rw [List.getElem?_set_ne hj]
          obtain ⟨e3, c3⟩ := ents_free (x := none) c1 h
          rw [e1, e3]
          exact ⟨M, p, c3⟩
        | some k =>
          obtain ⟨u, _, q, c2⟩ := ents_take c1 h
          obtain ⟨e3, c3⟩ := ents_free (x := none) c2 (set_self_none hv)
          rw [e3]
          refine ⟨(k, u) :: M, p.trans ((q.append_left M).trans List.perm_middle), c3⟩
    · have e1 : (L2.wipe σ vs).set v none = L2.wipe σ vs := List.set_eq_of_length_le (by rw [← c1.len]; omega)
      have e2 : (wipeR ρ vs).set v none = wipeR ρ vs := List.set_eq_of_length_le (by omega)
      rw [e1, e2]
      exact ⟨M, p, c1⟩

/-! ### comprehensions -/
def DTs (X : Cx) (e : En) (ρ : Rho) (ifs : List Expr) (ρ' : Rho) (b : Bool) : Prop := PTs X ifs (tT X.K e ρ ρ' b)
theorem dts_nil : DTs X e ρ [] ρ true := ⟨fun pins s σ H Q I ⟨S, stk, c, o, q⟩ => pts_nil.run pins s σ H Q I (q H S c o)⟩
theorem dts_one {b : Bool} (h : DT X e ρ ec ρ1 b) : DTs X e ρ [ec] ρ1 b := pts_one h
theorem pg_ex {α : Type} {X : Cx} {tg : Expr} {t : α → TG} {p : α → Prop} (h : ∀ a, p a → PG X tg (t a)) : PG X tg (fun v σ H Q => ∃ a, p a ∧ t a v σ H Q) := ⟨fun pins s σ H v u Q I r ⟨a, pa, q⟩ => (h a pa).run pins s σ H v u Q I r q⟩
theorem pe_ex {α : Type} {X : Cx} {ex : Expr} {t : α → TE} {p : α → Prop} (h : ∀ a, p a → PE X ex (t a)) : PE X ex (fun σ H Q => ∃ a, p a ∧ t a σ H Q) := ⟨fun pins s σ H Q I ⟨a, pa, q⟩ => (h a pa).run pins s σ H Q I q⟩
theorem pts_ex {α : Type} {X : Cx} {ifs : List Expr} {t : α → TT} {p : α → Prop} (h : ∀ a, p a → PTs X ifs (t a)) : PTs X ifs (fun σ H Q => ∃ a, p a ∧ t a σ H Q) := ⟨fun pins s σ H Q I ⟨a, pa, q⟩ => (h a pa).run pins s σ H Q I q⟩
theorem pss_ex {α : Type} {X : Cx} {st : List Stmt} {t : α → TS} {p : α → Prop} (h : ∀ a, p a → PSs X st (t a)) : PSs X st (fun D σ H => ∃ a, p a ∧ t a D σ H) := ⟨fun pins s σ H D I ⟨a, pa, q⟩ => (h a pa).run pins s σ H D I q⟩
/-- the items that pass, what is made of them -/
def comp {α β : Type} (c : α → Bool) (f : α → β) (l : List α) : List β := (l.filter c).map f
theorem comp_take {α : Type} {ds : List α} {c : α → Bool} {f : α → PyData} {i : Nat} {d : α} (h : ds[i]? = some d) : comp c f (ds.take (i + 1)) = comp c f (ds.take i) ++ (if c d = true then [f d] else []) := by
  rw [List.take_add_one, h]
  unfold comp
  rw [List.filter_append, List.map_append]
  congr 1
  cases hc : c d <;> simp [hc]
theorem lc_turn {α : Type} {enc : α → PyData} {K : PySem.W.Frag} {wi : TI} {g : TG} {tt : TT} {te : TE} {vs : List Nat} {σ : L2.St} {H : Hp} {Q : VK} {ds : List α} {c : α → Bool} {f : α → PyData} {ρd : α → Rho} {ts : List Nat}
    (hg : g = fun v σ H Q => ∃ d, d ∈ ds ∧ tG K e (wipeR ρ1 vs) (.dat (enc d)) (ρd d) ts v σ H Q) (ht : tt = fun σ H Q => ∃ d, d ∈ ds ∧ tT K e (ρd d) (ρd d) (c d) σ H Q) (he : te = fun σ H Q => ∃ d, (d ∈ ds ∧ c d = true) ∧ tX K e (ρd d) (ρd d) (.dat (f d)) σ H Q)
    (hts : ∀ t ∈ ts, t ∈ vs) (hw : ∀ d ∈ ds, wipeR (ρd d) vs = wipeR ρ1 vs) (hwi : wi = fun σ H R => ∃ S stk, Cov ρ σ ∧ Os K e (stk ++ ents ρ σ) H S ∧ ∀ J L0 H' S', (ds.map enc).length ≤ sizeLine → Wk K e J L0 (ds.map enc) → Cov ρ1 σ → Os K e (L0 ++ (stk ++ ents ρ1 σ)) H' S' → R J H')
    (h : tX K e ρ ρ1 (.ml (comp c f ds)) σ H Q) : tLc wi g tt te vs σ H Q := by
  obtain ⟨S, stk, c0, o, q⟩ := h
  subst hwi
  refine ⟨S, stk, c0, o, fun J L0 H1 S1 hz W c1 o1 D hD => ?_⟩
  have hlen : (ds.map enc).length = ds.length := List.length_map ..
  rw [hlen] at hz
  obtain ⟨M, pM, cM⟩ := ents_hide vs c1
  have oM : Os K e (L0 ++ ((stk ++ M) ++ ents (wipeR ρ1 vs) (L2.wipe σ vs))) H1 S1 := o1.perm (List.Perm.append_left _ (by rw [List.append_assoc]; exact pM.append_left stk))
  refine ⟨fun i m H' => m = ds.length - i ∧ i ≤ ds.length ∧ ∃ S', Os K e ((.ml (comp c f (ds.take i)), .ref D) :: (L0 ++ ((stk ++ M) ++ ents (wipeR ρ1 vs) (L2.wipe σ vs)))) H' S', ⟨ds.length, rfl, Nat.zero_le _, S1, ?_⟩, ?_⟩
  · refine oM.newO hD (fun xs z => by cases z) ?_
    simp only [Ho]
    exact ⟨D, [], rfl, rfl, upd_same, DaL.nil⟩
  · rintro i m H' ⟨rfl, hi, S', oi⟩
    have og : Os K e (L0 ++ ((.ml (comp c f (ds.take i)), .ref D) :: ((stk ++ M) ++ ents (wipeR ρ1 vs) (L2.wipe σ vs)))) H' S' := oi.perm List.perm_middle.symm
    by_cases hlt : i < ds.length
    · refine .inr ⟨W.goes i H' S' _ (by rw [hlen]; exact hlt) og, fun H'' => ∃ S'', Os K e ((.ml (comp c f (ds.take (i + 1))), .ref D) :: (L0 ++ ((stk ++ M) ++ ents (wipeR ρ1 vs) (L2.wipe σ vs)))) H'' S'', fun H'' n => ⟨ds.length - (i + 1), by omega, rfl, hlt, n⟩, fun x H2 y => ?_⟩
      have hd : ds[i]? = some ds[i] := List.getElem?_eq_getElem hlt
      have md : ds[i] ∈ ds := List.getElem_mem hlt
      obtain ⟨S2, o2⟩ := W.yields i H' S' _ x H2 (enc ds[i]) (by rw [List.getElem?_map, hd]; rfl) og y
      subst hg
      refine ⟨ds[i], md, S2, (.ml (comp c f (ds.take i)), .ref D) :: (L0 ++ (stk ++ M)), cM, ?_, fun σ3 H3 S3 s3 c3 o3 => ?_⟩
      · refine o2.perm (List.Perm.cons _ ?_)
        have e9 : ((Kd.ml (comp c f (ds.take i)), V.ref D) :: (L0 ++ (stk ++ M))) ++ ents (wipeR ρ1 vs) (L2.wipe σ vs) = (Kd.ml (comp c f (ds.take i)), V.ref D) :: (L0 ++ ((stk ++ M) ++ ents (wipeR ρ1 vs) (L2.wipe σ vs))) := by rw [List.cons_append, List.append_assoc]
        rw [e9]
        exact List.perm_middle
      · have e3 : L2.wipe σ3 vs = L2.wipe σ vs := wipe_of_slots s3 hts
        refine ⟨e3, ?_⟩
        subst ht
        refine ⟨ds[i], md, S3, _, c3, o3, fun H4 S4 c4 o4 => ?_⟩
        have back : ∀ {H5 S5 : Hp} {L : En2}, Os K e (L ++ ents (ρd ds[i]) σ3) H5 S5 → Os K e (L ++ ents (wipeR ρ1 vs) (L2.wipe σ vs)) H5 S5 := fun {H5 S5 L} o5 => by
          obtain ⟨o6, _⟩ := Os.wipe vs c3 o5
          rw [e3, hw _ md] at o6
          exact o6
        cases hc : c ds[i] with
        | false =>
          refine iteF ⟨S4, ?_⟩
          rw [comp_take hd, hc, if_neg Bool.false_ne_true, List.append_nil]
          have o5 := back o4
          rw [List.cons_append, List.append_assoc] at o5
          exact o5
        | true =>
          subst he
          refine iteT ⟨ds[i], ⟨md, hc⟩, S4, _, c4, o4, fun y H5 S5 c5 o5 => ?_⟩
          have hy : Da K S5 (f ds[i]) y := o5.dat
          have o6 : Os K e ((.ml (comp c f (ds.take i)), .ref D) :: (L0 ++ (stk ++ M)) ++ ents (ρd ds[i]) σ3) H5 S5 := o5.drop
          obtain ⟨fp, hf⟩ := (show Os K e ((.ml (comp c f (ds.take i)), .ref D) :: ((L0 ++ (stk ++ M)) ++ ents (ρd ds[i]) σ3)) H5 S5 from o6).ho
          simp only [Ho] at hf
          obtain ⟨p, xs, e7, e8, hp, hxs⟩ := hf
          cases e7
          have hl : xs.length ≤ i := by
            rw [hxs.len]
            unfold comp
            rw [List.length_map]
            exact Nat.le_trans (List.length_filter_le _ _) (by rw [List.length_take]; omega)
          refine ⟨xs, hp, by omega, S5, ?_⟩
          have o7 : Os K e ((.ml (comp c f (ds.take (i + 1))), .ref D) :: ((L0 ++ (stk ++ M)) ++ ents (ρd ds[i]) σ3)) (upd H5 D (.lst (xs ++ [y]))) S5 := by
            refine Os.write (k := .ml (comp c f (ds.take i))) o6 (fun f hf => ?_) (fun xs z => by cases z) (fun f hf _ => ?_)
            · simp only [Ho] at hf
              obtain ⟨p, _, e7, rfl, _⟩ := hf
              cases e7
              simp
            · simp only [Ho] at hf ⊢
              obtain ⟨p, ys, e7, rfl, hp', hys⟩ := hf
              cases e7
              rw [hp] at hp'
              cases hp'
              refine ⟨D, _, rfl, rfl, upd_same, ?_⟩
              rw [comp_take hd, hc, if_pos rfl]
              exact hys.append (DaL.cons hy DaL.nil)
          have o8 := back (L := (.ml (comp c f (ds.take (i + 1))), .ref D) :: (L0 ++ (stk ++ M))) o7
          rw [List.cons_append, List.append_assoc] at o8
          exact o8
    · have e1 : i = ds.length := by omega
      subst e1
      rw [List.take_length] at oi
      refine .inl ⟨(hlen ▸ W.stops H' S' _ og : J.stop ds.length H'), q _ H' S' c1 ?_⟩
      have p9 : ((stk ++ M) ++ ents (wipeR ρ1 vs) (L2.wipe σ vs)).Perm (stk ++ ents ρ1 σ) := by
        rw [List.append_assoc]
        exact pM.symm.append_left stk
      have o9 := og.perm (List.Perm.append_left L0 (p9.cons _))
      rw [List.take_length] at o9
      exact o9.drops
theorem dx_lc {α : Type} {l : List α} {enc : α → PyData} {elt iter : Expr} {ifs : List Expr} {scope : Scope} {own : List (Str × Nat)} {c : α → Bool} {f : α → PyData} (ρd : α → Rho) (ts : List Nat) (hc : X.calm = true) (hN : X.N.Nodup)
    (hi : DI X e ρ tg iter ρ1 (l.map enc)) (ok : BlkOk X.N X.env.scope scope own)
    (hg : ∀ (s : Shared) (H : Hp) (C : Addr) (cl : List (Str × Addr)) (fp : List Addr) (d : α), d ∈ l → DG (X.blk s H scope (compEnvC scope cl C X.env) fp) e (wipeR ρ1 (own.map (·.2))) tg (.dat (enc d)) (ρd d) ts)
    (ht : ∀ (s : Shared) (H : Hp) (C : Addr) (cl : List (Str × Addr)) (fp : List Addr) (d : α), d ∈ l → DTs (X.blk s H scope (compEnvC scope cl C X.env) fp) e (ρd d) ifs (ρd d) (c d))
    (he : ∀ (s : Shared) (H : Hp) (C : Addr) (cl : List (Str × Addr)) (fp : List Addr) (d : α), d ∈ l → c d = true → DX (X.blk s H scope (compEnvC scope cl C X.env) fp) e (ρd d) elt (ρd d) (.dat (f d)))
    (hts : ∀ t ∈ ts, t ∈ own.map (·.2)) (hw : ∀ d ∈ l, wipeR (ρd d) (own.map (·.2)) = wipeR ρ1 (own.map (·.2))) (hs : ∀ x, foldedSetIterable iter X.env x = pure x := by intro _; rfl) :
    DX X e ρ (.ListComp elt [⟨tg, iter, ifs, 0⟩] scope pos) ρ1 (.ml (comp c f l)) :=
  PE.mono (pe_lc hc hN hi ok (fun s H C cl fp => pg_ex (X := X.blk s H scope (compEnvC scope cl C X.env) fp) (tg := tg) (t := fun d : α => tG X.K e (wipeR ρ1 (List.map (fun p : Str × Nat => p.2) own)) (.dat (enc d)) (ρd d) ts) (p := fun d => d ∈ l) fun d md => hg s H C cl fp d md) (fun s H C cl fp => pts_ex (X := X.blk s H scope (compEnvC scope cl C X.env) fp) (t := fun d : α => tT X.K e (ρd d) (ρd d) (c d)) (p := fun d => d ∈ l) fun d md => ht s H C cl fp d md) (fun s H C cl fp => pe_ex (X := X.blk s H scope (compEnvC scope cl C X.env) fp) (t := fun d : α => tX X.K e (ρd d) (ρd d) (.dat (f d))) (p := fun d => d ∈ l ∧ c d = true) fun d md => he s H C cl fp d md.1 md.2) hs)
    fun σ H Q h => lc_turn rfl rfl rfl hts hw rfl h
end
end Ov
set_option Elab.async false
set_option linter.all false
set_option maxRecDepth 100000
set_option maxHeartbeats 1000000
namespace Ov
open PySem PySem.Spec PyProof.Rows L2
section
variable {X : Cx} {e : En} {ρ ρ1 ρ2 ρ3 : Rho} {ea eb ec ex tg : Expr} {pos : Pos} {k : Kd}
/-! ### what is walked -/
def HB (K : PySem.W.Frag) (H : Hp) : Prop := (∀ a xs, SqL K H a xs → xs.length ≤ sizeLine) ∧ ∀ a xs, SqT K H a xs → xs.length ≤ sizeLine
theorem Inv.hb {pins : List (Addr × Obj)} {σ : L2.St} {H : Hp} {s : Shared} (I : Inv X pins σ H s) : HB X.K H :=
  ⟨fun a xs h => by obtain ⟨_, _, _, z⟩ := I.list h; exact z, fun a xs h => by obtain ⟨_, _, _, z⟩ := I.tuple h; exact z⟩
theorem pi_hb {wi : TI} (h : PI X tg ex wi) : PI X tg ex (fun σ H R => wi σ H fun J H' => HB X.K H' → R J H') := ⟨fun pins s σ H R I q => by
  refine thn (h.run pins s σ H _ I q) fun v s1 h1 => thn h1 fun itv s2 ⟨it, fp, tn, J, H', e1, I', T, t0, f, r⟩ => ?_
  exact ⟨it, fp, tn, J, H', e1, I', T, t0, f, r (Ov.Inv.hb I')⟩⟩
theorem wk_list {K : PySem.W.Frag} {a : Addr} {ds : List PyData} : Wk K e (Itl K a) [(.dat (.list ds), .ref a)] ds where
  goes := fun i H S L hi o => by
    obtain ⟨b, xs, z, e1, hd⟩ := mem_da.mp o.dat
    cases z
    obtain ⟨v, e2, _⟩ := hd.get (List.getElem?_eq_getElem hi)
    exact ⟨xs, v, SqL.of (o.same _ _ e1), e2⟩
  stops := fun H S L o => by
    obtain ⟨b, xs, z, e1, hd⟩ := mem_da.mp o.dat
    cases z
    exact ⟨xs, SqL.of (o.same _ _ e1), by rw [hd.len]; exact Nat.le_refl _⟩
  yields := fun i H S L x H' d hd o y => by
    obtain ⟨b, xs, z, e1, h⟩ := mem_da.mp o.dat
    cases z
    obtain ⟨rfl, y⟩ := y
    have e2 := y xs (SqL.of (o.same _ _ e1))
    obtain ⟨v, e3, hv⟩ := h.get hd
    rw [e3] at e2
    cases e2
    exact ⟨S, o.push hv⟩
theorem wk_tup {K : PySem.W.Frag} {a : Addr} {ds : List PyData} : Wk K e (Itt K a) [(.dat (.tuple ds), .ref a)] ds where
  goes := fun i H S L hi o => by
    obtain ⟨b, xs, z, e1, hd⟩ := mem_dat.mp o.dat
    cases z
    obtain ⟨v, e2, _⟩ := hd.get (List.getElem?_eq_getElem hi)
    exact ⟨xs, v, same_t o.same e1, e2⟩
  stops := fun H S L o => by
    obtain ⟨b, xs, z, e1, hd⟩ := mem_dat.mp o.dat
    cases z
    exact ⟨xs, same_t o.same e1, by rw [hd.len]; exact Nat.le_refl _⟩
  yields := fun i H S L x H' d hd o y => by
    obtain ⟨b, xs, z, e1, h⟩ := mem_dat.mp o.dat
    cases z
    obtain ⟨rfl, y⟩ := y
    have e2 := y xs (same_t o.same e1)
    obtain ⟨v, e3, hv⟩ := h.get hd
    rw [e3] at e2
    cases e2
    exact ⟨S, o.push hv⟩
theorem di_list {ds : List PyData} (h : DX X e ρ ex ρ1 (.dat (.list ds))) : DI X e ρ tg ex ρ1 ds :=
  PI.mono (pi_hb (pi_list h)) fun σ H R ⟨S, stk, c, o, q⟩ => ⟨S, stk, c, o, fun v H1 S1 c1 o1 => by
    obtain ⟨a, xs, rfl, e1, hd⟩ := mem_da.mp o1.dat
    have hs := SqL.of (K := X.K) (o1.same _ _ e1)
    exact ⟨a, rfl, ⟨xs, hs⟩, fun hb => q _ [(.dat (.list ds), .ref a)] H1 S1 (by rw [← hd.len]; exact hb.1 _ _ hs) wk_list c1 o1⟩⟩
theorem di_tup {ds : List PyData} (h : DX X e ρ ex ρ1 (.dat (.tuple ds))) : DI X e ρ tg ex ρ1 ds :=
  PI.mono (pi_hb (pi_tup h)) fun σ H R ⟨S, stk, c, o, q⟩ => ⟨S, stk, c, o, fun v H1 S1 c1 o1 => by
    obtain ⟨a, xs, rfl, e1, hd⟩ := mem_dat.mp o1.dat
    have hs := same_t (K := X.K) o1.same e1
    exact ⟨a, rfl, ⟨xs, hs⟩, fun hb => q _ [(.dat (.tuple ds), .ref a)] H1 S1 (by rw [← hd.len]; exact hb.2 _ _ hs) wk_tup c1 o1⟩⟩
/-- lo, lo + 1, .. -/
def rng (lo : Int) (n : Nat) : List Int := (List.range n).map fun i => lo + (i : Nat)
theorem rng_len (lo : Int) (n : Nat) : (rng lo n).length = n := by simp [rng]
theorem rng_get {lo : Int} {n i : Nat} (h : i < n) : (rng lo n)[i]? = some (lo + (i : Nat)) := by simp [rng, h]
theorem mem_rng {lo : Int} {n : Nat} {j : Int} : j ∈ rng lo n ↔ lo ≤ j ∧ j < lo + n := by
  simp only [rng, List.mem_map, List.mem_range]
  constructor
  · rintro ⟨i, hi, rfl⟩
    omega
  · rintro ⟨h1, h2⟩
    exact ⟨(j - lo).toNat, by omega, by omega⟩
theorem wk_rng {K : PySem.W.Frag} {lo : Int} {n : Nat} : Wk K e (Itr lo n) [] ((rng lo n).map .int) where
  goes := fun i H S L hi o => by rw [List.length_map, rng_len] at hi; exact hi
  stops := fun H S L o => by rw [List.length_map, rng_len]; exact Nat.le_refl _
  yields := fun i H S L x H' d hd o y => by
    obtain ⟨rfl, rfl⟩ := y
    rw [List.getElem?_map] at hd
    by_cases hi : i < n
    · rw [rng_get hi] at hd
      cases hd
      exact ⟨S, o.push (da_int _ _)⟩
    · rw [List.getElem?_eq_none (by rw [rng_len]; omega)] at hd
      cases hd
theorem di_rng1 {n : Int} {p : Pos} (h : DX X e ρ ea ρ1 (.dat (.int n))) (hm : X.mg "range" = none) (h0 : -(2 ^ 62) ≤ n) (hz : n ≤ 16777216) (hg : Gl X "range" := by rfl) (hs : starEach [ea] X.env = [(false, eval ea X.env)] := by rfl) : DI X e ρ tg (.Call (.Name "range" p) [ea] [] pos) ρ1 ((rng 0 n.toNat).map .int) := by
  refine PI.mono (pi_range1 hg hm (da_cons h da_nil hs) hs) fun σ H R ⟨S, stk, c, o, q⟩ => ⟨S, stk, c, o, fun vs H1 S1 c1 ok o1 => ?_⟩
  obtain ⟨e1, e2⟩ := pushed_pus (ds := [.int n]) ok
  have e1 : pushed [Ar.pu (.dat (.int n))] vs = ([Kd.dat (.int n)] : List Kd).zip vs := e1
  rw [e1] at o1
  have hd := Os.dats (ds := [.int n]) e2 o1
  simp only [DaL, Da] at hd
  obtain ⟨v, vs', rfl, rfl, rfl⟩ := hd
  exact ⟨n, rfl, h0, by omega, q _ [] H1 S1 (by rw [List.length_map, rng_len, sizeLine_eq]; omega) wk_rng c1 o1.drop⟩
theorem di_rng2 {m n : Int} {p : Pos} (h : DX X e ρ ea ρ1 (.dat (.int m))) (h2 : DX X e ρ1 eb ρ2 (.dat (.int n))) (hm : X.mg "range" = none) (h0 : -(2 ^ 62) ≤ m ∧ m < 2 ^ 62 ∧ -(2 ^ 62) ≤ n ∧ n < 2 ^ 62) (hz : n - m ≤ 16777216) (hg : Gl X "range" := by rfl) (hs : starEach [ea, eb] X.env = [(false, eval ea X.env), (false, eval eb X.env)] := by rfl) (hs2 : starEach [eb] X.env = [(false, eval eb X.env)] := by rfl) :
    DI X e ρ tg (.Call (.Name "range" p) [ea, eb] [] pos) ρ2 ((rng m (n - m).toNat).map .int) := by
  refine PI.mono (pi_range2 hg hm (da_cons h (da_cons h2 da_nil hs2) (by rw [hs, hs2])) hs hs2) fun σ H R ⟨S, stk, c, o, q⟩ => ⟨S, stk, c, o, fun vs H1 S1 c1 ok o1 => ?_⟩
  obtain ⟨e1, e2⟩ := pushed_pus (ds := [.int m, .int n]) ok
  have e1 : pushed [Ar.pu (.dat (.int m)), Ar.pu (.dat (.int n))] vs = ([Kd.dat (.int m), Kd.dat (.int n)] : List Kd).zip vs := e1
  rw [e1] at o1
  have hd := Os.dats (ds := [.int m, .int n]) e2 o1
  simp only [DaL, Da] at hd
  obtain ⟨v, vs', rfl, rfl, w, vs'', rfl, rfl, rfl⟩ := hd
  exact ⟨m, n, rfl, h0, q _ [] H1 S1 (by rw [List.length_map, rng_len, sizeLine_eq]; omega) wk_rng c1 o1.drop.drop⟩
/-- (0, a), (1, b), .. -/
def enumD (ds : List PyData) : List PyData := ds.zipIdx.map fun p => .tuple [.int (p.2 : Nat), p.1]
theorem enumD_len (ds : List PyData) : (enumD ds).length = ds.length := by simp [enumD]
theorem enumD_get {ds : List PyData} {i : Nat} {d : PyData} (h : (enumD ds)[i]? = some d) : ∃ x, ds[i]? = some x ∧ d = .tuple [.int (i : Nat), x] := by
  simp only [enumD, List.getElem?_map, List.getElem?_zipIdx, Option.map_eq_some_iff] at h
  obtain ⟨⟨a, b⟩, ⟨x, hx, hp⟩, rfl⟩ := h
  simp only [Prod.mk.injEq] at hp
  obtain ⟨rfl, rfl⟩ := hp
  exact ⟨x, hx, by simp⟩
theorem wk_enum {K : PySem.W.Frag} {a : Addr} {ds : List PyData} : Wk K e (Ite K a) [(.dat (.list ds), .ref a)] (enumD ds) where
  goes := fun i H S L hi o => by
    rw [enumD_len] at hi
    obtain ⟨b, xs, z, e1, hd⟩ := mem_da.mp o.dat
    cases z
    obtain ⟨v, e2, _⟩ := hd.get (List.getElem?_eq_getElem hi)
    exact ⟨xs, v, SqL.of (o.same _ _ e1), e2⟩
  stops := fun H S L o => by
    obtain ⟨b, xs, z, e1, hd⟩ := mem_da.mp o.dat
    cases z
    exact ⟨xs, SqL.of (o.same _ _ e1), by rw [hd.len, enumD_len]; exact Nat.le_refl _⟩
  yields := fun i H S L x H' d hd o y => by
    obtain ⟨b, xs, z, e1, h⟩ := mem_da.mp o.dat
    cases z
    obtain ⟨T, u, rfl, hT, rfl, y⟩ := y
    have e2 := y xs (SqL.of (o.same _ _ e1))
    obtain ⟨w, hw, rfl⟩ := enumD_get hd
    obtain ⟨v, e3, hv⟩ := h.get hw
    rw [e3] at e2
    cases e2
    exact ⟨_, o.newTup hT (DaL.cons (da_int _ _) (DaL.cons hv DaL.nil))⟩
theorem di_enum {ds : List PyData} {elts : List Expr} {kk : Nat} {tpos p : Pos} (h : DX X e ρ ea ρ1 (.dat (.list ds))) (hm : X.mg "enumerate" = none) (hg : Gl X "enumerate" := by rfl) (hs : starEach [ea] X.env = [(false, eval ea X.env)] := by rfl) : DI X e ρ (.Tuple elts kk tpos) (.Call (.Name "enumerate" p) [ea] [] pos) ρ1 (enumD ds) := by
  refine PI.mono (pi_hb (pi_enum hg hm (da_cons h da_nil hs) hs)) fun σ H R ⟨S, stk, c, o, q⟩ => ⟨S, stk, c, o, fun vs H1 S1 c1 ok o1 => ?_⟩
  obtain ⟨e1, e2⟩ := pushed_pus (ds := [.list ds]) ok
  have e1 : pushed [Ar.pu (.dat (.list ds))] vs = ([Kd.dat (.list ds)] : List Kd).zip vs := e1
  rw [e1] at o1
  have hd := Os.dats (ds := [.list ds]) e2 o1
  simp only [DaL] at hd
  obtain ⟨v, vs', rfl, hv, rfl⟩ := hd
  obtain ⟨a, xs, rfl, e3, hd⟩ := mem_da.mp hv
  have hs := SqL.of (K := X.K) (o1.same _ _ e3)
  exact ⟨a, xs, rfl, hs, fun hb => q _ [(.dat (.list ds), .ref a)] H1 S1 (by rw [enumD_len, ← hd.len]; exact hb.1 _ _ hs) wk_enum c1 o1⟩
end

/-! ### calls of defs -/
inductive Res where
  | ret (k : Kd)
  | exc (C : Addr) (fs : List (Str × PyData))
/-- an exception's own dict -/
def ExD (K : PySem.W.Frag) (S : Hp) (fs : List (Str × PyData)) : Option Addr → Prop
  | none => fs = []
  | some d => ∃ ws, S d = some (.xd ws) ∧ ws.map (·.1) = fs.map (·.1) ∧ DaL K S (fs.map (·.2)) (ws.map (·.2))
abbrev Rel := List Kd → List Kd → Res → Prop
/-- a def's promise, by what is related -/
def spG (K : PySem.W.Frag) (rel : Rel) : Sp := fun vs H Q E => ∃ (S : Hp) (ks ks' : List Kd) (r : Res) (f : List Addr), rel ks ks' r ∧ ks.length = vs.length ∧ ks'.length = vs.length ∧ SL K H S (ks.zip vs) f ∧ Os K ⟨less H f, S⟩ (ks.zip vs) H S ∧
  match r with
  | .ret k => ∀ v H' S', Os K ⟨less H f, S⟩ ((k, v) :: ks'.zip vs) H' S' → Q v H'
  | .exc C fs => ∀ d H' S', ExD K S' fs d → Os K ⟨less H f, S⟩ (ks'.zip vs) H' S' → E (.ref C) d H'
def takeA : List Ar → Rho → Option (List Kd × Rho)
  | [], ρ => some ([], ρ)
  | .pu k :: as, ρ => (takeA as ρ).map fun p => (k :: p.1, p.2)
  | .sl i :: as, ρ => match ρ[i]? with
    | some (some k) => (takeA as (ρ.set i none)).map fun p => (k :: p.1, p.2)
    | _ => none
def putA : List Ar → List Kd → Rho → Rho
  | .pu _ :: as, _ :: ks, ρ => putA as ks ρ
  | .sl i :: as, k :: ks, ρ => (putA as ks ρ).set i (some k)
  | _, _, ρ => ρ
theorem take_none : ∀ {as : List Ar} {ρ r : Rho} {ks : List Kd} {i : Nat}, takeA as ρ = some (ks, r) → ρ[i]? = some none → ∀ ks' : List Kd, (putA as ks' r)[i]? = some none
  | [], ρ, r, ks, i, h, h0, ks' => by
    simp only [takeA, Option.some.injEq, Prod.mk.injEq] at h
    obtain ⟨_, rfl⟩ := h
    cases ks' <;> exact h0
  | .pu k :: as, ρ, r, ks, i, h, h0, ks' => by
    simp only [takeA, Option.map_eq_some_iff] at h
    obtain ⟨⟨ks2, r2⟩, h, z⟩ := h
    simp only [Prod.mk.injEq] at z
    obtain ⟨_, rfl⟩ := z
    cases ks' with
    | nil =>
      have := take_none h h0 []
      cases as with
      | nil => exact this
      | cons a as => cases a <;> exact this
    | cons k' ks' => exact take_none h h0 ks'
  | .sl j :: as, ρ, r, ks, i, h, h0, ks' => by
    simp only [takeA] at h
    split at h
    · rename_i k hk
      simp only [Option.map_eq_some_iff] at h
      obtain ⟨⟨ks2, r2⟩, h, z⟩ := h
      simp only [Prod.mk.injEq] at z
      obtain ⟨_, rfl⟩ := z
      have nij : j ≠ i := fun z => by
        subst z
        rw [h0] at hk
        cases hk
      have h1 : (ρ.set j none)[i]? = some none := by rw [List.getElem?_set_ne nij, h0]
      cases ks' with
      | nil =>
        have := take_none h h1 []
        cases as with
        | nil => exact this
        | cons a as => cases a <;> exact this
      | cons k' ks' =>
        show ((putA as ks' r2).set j (some k'))[i]? = some none
        rw [List.getElem?_set_ne nij]
        exact take_none h h1 ks'
    · cases h
section
variable {K : PySem.W.Frag} {e : En} {L : En2} {H S : Hp} {σ : L2.St}
theorem take_ok : ∀ {as : List Ar} {vs : List V} {ρ r : Rho} {ks : List Kd}, Cov ρ σ → ArOk as vs σ → takeA as ρ = some (ks, r) → Cov r σ ∧ ks.length = vs.length ∧ (pushed as vs ++ ents ρ σ).Perm (ks.zip vs ++ ents r σ)
  | [], [], ρ, r, ks, c, _, h => by
    simp only [takeA, Option.some.injEq, Prod.mk.injEq] at h
    obtain ⟨rfl, rfl⟩ := h
    exact ⟨c, rfl, .refl _⟩
  | .pu k :: as, v :: vs, ρ, r, ks, c, ok, h => by
    simp only [takeA, Option.map_eq_some_iff] at h
    obtain ⟨⟨ks2, r2⟩, h, z⟩ := h
    simp only [Prod.mk.injEq] at z
    obtain ⟨rfl, rfl⟩ := z
    obtain ⟨c1, h1, p⟩ := take_ok c (show ArOk as vs σ from ok) h
    exact ⟨c1, by simp [h1], p.cons _⟩
  | .sl i :: as, v :: vs, ρ, r, ks, c, ok, h => by
    obtain ⟨hv, ok⟩ := ok
    simp only [takeA] at h
    split at h
    · rename_i k hk
      simp only [Option.map_eq_some_iff] at h
      obtain ⟨⟨ks2, r2⟩, h, z⟩ := h
      simp only [Prod.mk.injEq] at z
      obtain ⟨rfl, rfl⟩ := z
      obtain ⟨u, hu, p0, c0⟩ := ents_take c hk
      rw [hv] at hu
      cases hu
      obtain ⟨c1, h1, p⟩ := take_ok c0 ok h
      refine ⟨c1, by simp [h1], ?_⟩
      show (pushed as vs ++ ents ρ σ).Perm ((k, v) :: (ks2.zip vs ++ ents r2 σ))
      exact ((p0.append_left _).trans List.perm_middle).trans (p.cons _)
    · cases h
  | [], _ :: _, _, _, _, _, ok, _ => ok.elim
  | .pu _ :: _, [], _, _, _, _, ok, _ => ok.elim
  | .sl _ :: _, [], _, _, _, _, ok, _ => ok.elim
theorem put_ok : ∀ (L : En2) {as : List Ar} {vs : List V} {ρ r : Rho} {ks ks' : List Kd}, Cov ρ σ → ArOk as vs σ → takeA as ρ = some (ks, r) → ks'.length = vs.length → Os K e (ks'.zip vs ++ (L ++ ents r σ)) H S → Os K e (L ++ ents (putA as ks' r) σ) H S ∧ Cov (putA as ks' r) σ
  | L, [], [], ρ, r, ks, ks', c, _, h, hl, o => by
    simp only [takeA, Option.some.injEq, Prod.mk.injEq] at h
    obtain ⟨rfl, rfl⟩ := h
    cases ks' with
    | nil => exact ⟨o, c⟩
    | cons _ _ => simp at hl
  | L, .pu k :: as, v :: vs, ρ, r, ks, k' :: ks', c, ok, h, hl, o => by
    simp only [takeA, Option.map_eq_some_iff] at h
    obtain ⟨⟨ks2, r2⟩, h, z⟩ := h
    simp only [Prod.mk.injEq] at z
    obtain ⟨rfl, rfl⟩ := z
    have q := put_ok (as := as) (vs := vs) (ks' := ks') L c ok h (by simpa using hl) o.drop
    exact q
  | L, .sl i :: as, v :: vs, ρ, r, ks, k' :: ks', c, ok, h, hl, o => by
    obtain ⟨hv, ok⟩ := ok
    simp only [takeA] at h
    split at h
    · rename_i k hk
      simp only [Option.map_eq_some_iff] at h
      obtain ⟨⟨ks2, r2⟩, h, z⟩ := h
      simp only [Prod.mk.injEq] at z
      obtain ⟨rfl, rfl⟩ := z
      obtain ⟨u, hu, p0, c0⟩ := ents_take c hk
      have hi : i < ρ.length := (List.getElem?_eq_some_iff.mp hk).1
      have o1 : Os K e (ks'.zip vs ++ (((k', v) :: L) ++ ents r2 σ)) H S := o.perm (List.perm_middle.symm)
      obtain ⟨o2, c2⟩ := put_ok ((k', v) :: L) c0 ok h (by simpa using hl) o1
      obtain ⟨p3, c3⟩ := ents_put (k := k') c2 (take_none h (set_self_none hi) ks') hv
      exact ⟨o2.perm (List.perm_middle.symm.trans (p3.symm.append_left L)), c3⟩
    · cases h
  | _, [], _ :: _, _, _, _, _, _, ok, _, _, _ => ok.elim
  | _, .pu _ :: _, [], _, _, _, _, _, ok, _, _, _ => ok.elim
  | _, .sl _ :: _, [], _, _, _, _, _, ok, _, _, _ => ok.elim
  | _, .pu _ :: _, _ :: _, _, _, _, [], _, _, _, hl, _ => by simp at hl
  | _, .sl _ :: _, _ :: _, _, _, _, [], _, _, _, hl, _ => by simp at hl
/-- a promise is met: from the state with the arguments to the state behind -/
theorem sp_ret {rel : Rel} {ks ks' : List Kd} {k : Kd} {vs : List V} {Q : VK} {E : XK} (hr : rel ks ks' (.ret k)) (h1 : ks.length = vs.length) (h2 : ks'.length = vs.length) (o : Os K e (ks.zip vs ++ L) H S) (q : ∀ v H' S', Os K e ((k, v) :: (ks'.zip vs ++ L)) H' S' → Q v H') : spG K rel vs H Q E := by
  obtain ⟨f, hf, o1⟩ := o.enter
  exact ⟨S, ks, ks', .ret k, f, hr, h1, h2, hf, o1, fun v H' S' o2 => q v H' S' (Os.leave (M' := (k, v) :: ks'.zip vs) o hf o2)⟩
theorem sp_exc {rel : Rel} {ks ks' : List Kd} {C : Addr} {fs : List (Str × PyData)} {vs : List V} {Q : VK} {E : XK} (hr : rel ks ks' (.exc C fs)) (h1 : ks.length = vs.length) (h2 : ks'.length = vs.length) (o : Os K e (ks.zip vs ++ L) H S) (q : ∀ d H' S', ExD K S' fs d → Os K e (ks'.zip vs ++ L) H' S' → E (.ref C) d H') : spG K rel vs H Q E := by
  obtain ⟨f, hf, o1⟩ := o.enter
  exact ⟨S, ks, ks', .exc C fs, f, hr, h1, h2, hf, o1, fun d H' S' x o2 => q d H' S' x (Os.leave o hf o2)⟩
end
/-- a def of the module that keeps a promise -/
structure Fn (P : Program) (w : World) (K : PySem.W.Frag) (mg : Str → Option Value) (base : Heap) (x : Str) (ps : List Str) (lv : Nat) (rel : Rel) : Prop where
  ex : ∃ f fd, FnOk P w K mg base (L2.CX P w) lv f fd ps (spG K rel) ∧ mg x = some (.ref f) ∧ PySem.W.keepIn K (.ref f) = true ∧ Binds K fd ps []
section
variable {X : Cx} {e : En} {ρ ρ1 ρ2 : Rho} {ea : Expr} {es : List Expr} {pos p : Pos} {k : Kd} {x : Str} {ps : List Str} {lv : Nat} {rel : Rel} {as : List Ar} {ks ks' : List Kd} {r : Rho}
theorem dx_call (G : Fn X.prog X.w X.K X.mg X.base x ps lv rel) (hr : Room lv X.A) (ha : DA X e ρ (ea :: es) ρ1 as) (ht : takeA as ρ1 = some (ks, r)) (hrel : rel ks ks' (.ret k)) (hl : ks'.length = ks.length) (hg : Gl X x := by rfl)
    (hdb : (x == ("__debug__" : Str)) = false := by decide) (he : starEach (ea :: es) X.env = (false, eval ea X.env) :: starEach es X.env := by rfl) (hpl : (backTo pos (starEach es X.env)).any (·.1) = false := by rfl) :
    DX X e ρ (.Call (.Name x p) (ea :: es) [] pos) (putA as ks' r) k := by
  obtain ⟨f, fd, F, hm, hk, hb⟩ := G.ex
  refine PE.mono (pe_call F hr hg hm hk hb .nil passL ha hdb he hpl) fun σ H Q ⟨S, stk, c, o, q⟩ => ⟨S, stk, c, o, fun vs H1 S1 c1 ok o1 => ?_⟩
  obtain ⟨c2, h1, p2⟩ := take_ok c1 ok ht
  rw [List.append_nil]
  have o2 : Os X.K e (ks.zip vs ++ (stk ++ ents r σ)) H1 S1 := by
    refine o1.perm ?_
    have p3 : (pushed as vs ++ (stk ++ ents ρ1 σ)).Perm (stk ++ (pushed as vs ++ ents ρ1 σ)) := by
      rw [← List.append_assoc, ← List.append_assoc]
      exact List.perm_append_comm.append_right _
    have p4 : (stk ++ (ks.zip vs ++ ents r σ)).Perm (ks.zip vs ++ (stk ++ ents r σ)) := by
      rw [← List.append_assoc, ← List.append_assoc]
      exact List.perm_append_comm.append_right _
    exact (p3.trans (p2.append_left stk)).trans p4
  refine sp_ret hrel h1 (hl.trans h1) o2 fun v H' S' o3 => ?_
  obtain ⟨o4, c4⟩ := put_ok (K := X.K) ((k, v) :: stk) (ks' := ks') c1 ok ht (hl.trans h1) (o3.perm List.perm_middle.symm)
  exact q v H' S' c4 o4
/-- all arguments data, all left as they are -/
theorem dx_callP {ds : List PyData} (G : Fn X.prog X.w X.K X.mg X.base x ps lv rel) (hr : Room lv X.A) (ha : DA X e ρ (ea :: es) ρ1 (pus ds)) (hrel : rel (ds.map .dat) (ds.map .dat) (.ret k)) (hg : Gl X x := by rfl)
    (hdb : (x == ("__debug__" : Str)) = false := by decide) (he : starEach (ea :: es) X.env = (false, eval ea X.env) :: starEach es X.env := by rfl) (hpl : (backTo pos (starEach es X.env)).any (·.1) = false := by rfl) :
    DX X e ρ (.Call (.Name x p) (ea :: es) [] pos) ρ1 k := by
  have h1 : ∀ (ds : List PyData) (ρ : Rho), takeA (pus ds) ρ = some (ds.map .dat, ρ) := by
    intro ds ρ
    induction ds with
    | nil => rfl
    | cons d ds ih =>
      show (takeA (pus ds) ρ).map _ = _
      rw [ih]
      rfl
  have h2 : ∀ (ds : List PyData) (ks : List Kd) (ρ : Rho), putA (pus ds) ks ρ = ρ := by
    intro ds
    induction ds with
    | nil => intro ks ρ; cases ks <;> rfl
    | cons d ds ih =>
      intro ks ρ
      cases ks with
      | nil => rfl
      | cons k ks => exact ih ks ρ
  have q := dx_call (p := p) (pos := pos) G hr ha (h1 ds ρ1) hrel rfl hg hdb he hpl
  rw [h2] at q
  exact q
end
end Ov
set_option Elab.async false
set_option linter.all false
set_option maxRecDepth 100000
set_option maxHeartbeats 1000000
namespace Ov
open PySem PySem.Spec PyProof.Rows L2

/-! ### methods of a list that a slot owns -/
def Rml (K : PySem.W.Frag) (r : V → List V → Hp → VK → Prop) (ds : List PyData) (as : List PyData) (k : Kd) (ds' : List PyData) : Prop := ∀ (e : En) (L : En2) (H S : Hp) (p : Addr) (vs : List V) (Q : VK), Os K e ((.ml ds, .ref p) :: L) H S → DaL K S as vs →
  (∀ v H' S', Os K e ((k, v) :: (.ml ds', .ref p) :: L) H' S' → Q v H') → r (.ref p) vs H Q
theorem ml_at {K : PySem.W.Frag} {e : En} {L : En2} {H S : Hp} {ds : List PyData} {v : V} (o : Os K e ((.ml ds, v) :: L) H S) : ∃ p xs, v = .ref p ∧ H p = some (.lst xs) ∧ DaL K S ds xs := by
  obtain ⟨f, hf⟩ := o.ho
  simp only [Ho] at hf
  obtain ⟨p, xs, rfl, _, h1, h2⟩ := hf
  exact ⟨p, xs, rfl, h1, h2⟩
theorem Os.ml_set {K : PySem.W.Frag} {e : En} {L : En2} {H S : Hp} {ds ds' : List PyData} {p : Addr} {ys : List V} (o : Os K e ((.ml ds, .ref p) :: L) H S) (h : DaL K S ds' ys) : Os K e ((.ml ds', .ref p) :: L) (upd H p (.lst ys)) S := by
  refine Os.write o (fun f hf => ?_) (fun xs z => by cases z) (fun f hf _ => ?_)
  · simp only [Ho] at hf
    obtain ⟨q, _, z, rfl, _⟩ := hf
    cases z
    simp
  · simp only [Ho] at hf ⊢
    obtain ⟨q, _, z, rfl, _, _⟩ := hf
    cases z
    exact ⟨p, ys, rfl, rfl, upd_same, h⟩
theorem rml_append {K : PySem.W.Frag} {ds : List PyData} {d : PyData} (hz : ds.length < sizeLine) : Rml K rAppend ds [d] (.dat .none) (ds ++ [d]) := fun e L H S p vs Q o h q => by
  obtain ⟨_, xs, z, hp, hd⟩ := ml_at o
  cases z
  simp only [DaL] at h
  obtain ⟨v, _, rfl, hv, rfl⟩ := h
  exact ⟨p, xs, v, rfl, rfl, hp, by rw [hd.len]; exact hz, q _ _ S ((o.ml_set (hd.append (DaL.cons hv DaL.nil))).push (by simp only [Da]))⟩
theorem rml_extend {K : PySem.W.Frag} {ds es : List PyData} (hz : ds.length + es.length ≤ sizeLine) : Rml K rExtend ds [.list es] (.dat .none) (ds ++ es) := fun e L H S p vs Q o h q => by
  obtain ⟨_, xs, z, hp, hd⟩ := ml_at o
  cases z
  simp only [DaL] at h
  obtain ⟨v, _, rfl, hv, rfl⟩ := h
  obtain ⟨b, ys, rfl, hb, hd2⟩ := mem_da.mp hv
  exact ⟨p, b, xs, ys, rfl, rfl, hp, o.same _ _ hb, by rw [hd.len, hd2.len]; exact hz, q _ _ S ((o.ml_set (hd.append hd2)).push (by simp only [Da]))⟩
theorem dropLast_da {K : PySem.W.Frag} {S : Hp} {ds : List PyData} {xs : List V} (h : DaL K S ds xs) : DaL K S ds.dropLast xs.dropLast := by
  rw [List.dropLast_eq_take, List.dropLast_eq_take, h.len]
  exact h.take _
theorem rml_pop {K : PySem.W.Frag} {ds : List PyData} {d : PyData} (h0 : ds.getLast? = some d) : Rml K rPop ds [] (.dat d) ds.dropLast := fun e L H S p vs Q o h q => by
  obtain ⟨_, xs, z, hp, hd⟩ := ml_at o
  cases z
  simp only [DaL] at h
  subst h
  rw [List.getLast?_eq_getElem?] at h0
  obtain ⟨v, e1, hv⟩ := hd.get h0
  exact ⟨p, xs, v, rfl, rfl, hp, by rw [hd.len]; exact e1, q _ _ S ((o.ml_set (dropLast_da hd)).push hv)⟩
theorem rml_popAt {K : PySem.W.Frag} {ds : List PyData} {d : PyData} {i : Int} {j : Nat} (h1 : ixN ds.length i = some j) (h0 : ds[j]? = some d) (hz : ds.length ≤ 16777216) : Rml K rPopAt ds [.int i] (.dat d) (ds.eraseIdx j) := fun e L H S p vs Q o h q => by
  obtain ⟨_, xs, z, hp, hd⟩ := ml_at o
  cases z
  simp only [DaL, Da] at h
  obtain ⟨v, _, rfl, rfl, rfl⟩ := h
  obtain ⟨v, e1, hv⟩ := hd.get h0
  rw [← hd.len] at h1
  obtain ⟨a1, a2, a3, a4⟩ := ixN_seq h1
  have := hd.len
  exact ⟨p, xs, i, j, v, rfl, rfl, hp, by omega, by omega, a1, e1, q _ _ S ((o.ml_set (hd.erase j)).push hv)⟩
def rInsert : V → List V → Hp → VK → Prop := fun x vs H Q => ∃ (l : Addr) (xs : List V) (i : Int) (y : V), x = .ref l ∧ vs = [.int i, y] ∧ H l = some (.lst xs) ∧ xs.length < sizeLine ∧ 0 ≤ i ∧ i < 2 ^ 63 ∧ Q .non (upd H l (.lst (xs.take i.toNat ++ [y] ++ xs.drop i.toNat)))
theorem rml_insert {K : PySem.W.Frag} {ds : List PyData} {d : PyData} {i : Int} (h0 : 0 ≤ i) (h1 : i < 2 ^ 63) (hz : ds.length < sizeLine) : Rml K rInsert ds [.int i, d] (.dat .none) (ds.take i.toNat ++ [d] ++ ds.drop i.toNat) := fun e L H S p vs Q o h q => by
  obtain ⟨_, xs, z, hp, hd⟩ := ml_at o
  cases z
  simp only [DaL, Da] at h
  obtain ⟨v, _, rfl, rfl, v2, _, rfl, hv, rfl⟩ := h
  exact ⟨p, xs, i, v2, rfl, rfl, hp, by rw [hd.len]; exact hz, h0, h1, q _ _ S ((o.ml_set (((hd.take _).append (DaL.cons hv DaL.nil)).append (hd.drop _))).push (by simp only [Da]))⟩
section
variable {X : Cx} {e : En} {ρ ρ1 ρ2 ρ3 : Rho} {ea eb ec ex tg : Expr} {pos : Pos} {k : Kd}
theorem ty_ml {K : PySem.W.Frag} {H : Hp} {p : Addr} {xs : List V} (h : H p = some (.lst xs)) : tyV K "list" (.ref p) H := .inl ⟨rfl, xs, SqL.of h⟩
/-- x.m(e, ..), x the name of a slot that owns a list -/
theorem dx_mml {x name : Str} {id : String} {r : V → List V → Hp → VK → Prop} {es : List Expr} {as : List PyData} {ds ds1 ds' : List PyData} {xp apos : Pos} (i : Nat) (pa : PlainAttrs "list") (slot : Slot "list" name id) (hty : typeOf (.builtin id) = pure (.type "method_descriptor")) (hm : MtR X id r)
    (ha : DA X e ρ (ea :: es) ρ1 (pus as)) (hr : Rml X.K r ds1 as k ds') (hρ : ρ[i]? = some (some (.ml ds)) := by rfl) (hρ1 : ρ1[i]? = some (some (.ml ds1)) := by rfl) (hN : X.N[i]? = some x := by rfl) (hv : Vis X.env.scope x := by first | exact Or.inl rfl | exact Or.inr (Or.inl rfl) | exact Or.inr (Or.inr rfl))
    (hd : (x == ("__debug__" : Str)) = false := by decide) (hcd : (x == ("__classdict__" : Str)) = false := by decide) (hbase : attributeBase (.Name x xp) name X.env (eval (.Name x xp) X.env) = eval (.Name x xp) X.env := by rfl)
    (hfew : ((backTo pos (starEach (ea :: es) X.env)).all (fun x => !x.1) && (backToKw pos (keywordEach [] X.env)).all (fun x => x.1.isSome) && decide ((ea :: es).length + ([] : List Keyword).length + (if ([] : List Keyword).isEmpty then 0 else 1) < 30)) = true := by rfl)
    (hline : (apos.endLine == pos.line) = true := by rfl) (hs : starEach (ea :: es) X.env = (false, eval ea X.env) :: starEach es X.env := by rfl) (hplain : (backTo pos (starEach es X.env)).any (·.1) = false := by rfl) :
    DX X e ρ (.Call (.Attribute (.Name x xp) name apos) (ea :: es) [] pos) (ρ1.set i (some (.ml ds'))) k :=
  PE.mono (pe_bm pa slot hty hm (pe_var hN hv hd hcd) ha hbase hfew hline hs hplain) fun σ H Q ⟨S, stk, c, o, q⟩ => by
    obtain ⟨v, e1, o1, _⟩ := o.focus c hρ
    obtain ⟨p, xs, rfl, hp, _⟩ := ml_at o1
    refine ⟨.ref p, e1, ty_ml hp, S, stk, c, o, fun vs H1 S1 c1 ok o2 => ?_⟩
    obtain ⟨e2, e3⟩ := pushed_pus ok
    rw [e2] at o2
    have hd := Os.dats e3 o2
    obtain ⟨v', e4, o3, back⟩ := (o2.drops (M := (as.map Kd.dat).zip vs)).focus c1 hρ1
    rw [e1] at e4
    cases e4
    refine hr e _ H1 S1 p vs Q o3 hd fun v H' S' o4 => ?_
    obtain ⟨o5, c5⟩ := back (.ml ds') ((k, v) :: stk) e H' S' (o4.perm (.swap _ _ _))
    exact q v H' S' c5 o5
/-- x.m() -/
theorem dx_mml0 {x name : Str} {id : String} {r : V → List V → Hp → VK → Prop} {ds ds' : List PyData} {xp apos : Pos} (i : Nat) (pa : PlainAttrs "list") (slot : Slot "list" name id) (hty : typeOf (.builtin id) = pure (.type "method_descriptor")) (hm : MtR X id r)
    (hr : Rml X.K r ds [] k ds') (hρ : ρ[i]? = some (some (.ml ds)) := by rfl) (hN : X.N[i]? = some x := by rfl) (hv : Vis X.env.scope x := by first | exact Or.inl rfl | exact Or.inr (Or.inl rfl) | exact Or.inr (Or.inr rfl))
    (hd : (x == ("__debug__" : Str)) = false := by decide) (hcd : (x == ("__classdict__" : Str)) = false := by decide) (hbase : attributeBase (.Name x xp) name X.env (eval (.Name x xp) X.env) = eval (.Name x xp) X.env := by rfl)
    (hline : (apos.endLine == pos.line) = true := by rfl) :
    DX X e ρ (.Call (.Attribute (.Name x xp) name apos) [] [] pos) (ρ.set i (some (.ml ds'))) k :=
  PE.mono (pe_bm0 pa slot hty hm (pe_var hN hv hd hcd) hbase hline) fun σ H Q ⟨S, stk, c, o, q⟩ => by
    obtain ⟨v, e1, o1, back⟩ := o.focus c hρ
    obtain ⟨p, xs, rfl, hp, _⟩ := ml_at o1
    refine ⟨.ref p, e1, ty_ml hp, hr e _ H S p [] Q o1 DaL.nil fun v H' S' o4 => ?_⟩
    obtain ⟨o5, c5⟩ := back (.ml ds') ((k, v) :: stk) e H' S' (o4.perm (.swap _ _ _))
    exact q v H' S' c5 o5
/-! ### reading a list that a slot owns -/
theorem pe_slot {x : Str} {p : Pos} (i : Nat) (hN : X.N[i]? = some x := by rfl) (hv : Vis X.env.scope x := by first | exact Or.inl rfl | exact Or.inr (Or.inl rfl) | exact Or.inr (Or.inr rfl)) (hd : (x == ("__debug__" : Str)) = false := by decide) (hcd : (x == ("__classdict__" : Str)) = false := by decide) : PE X (.Name x p) (tVar i) := pe_var hN hv hd hcd
theorem dx_ixM {x : Str} {xp : Pos} {ds : List PyData} {j : Int} {d : PyData} (i : Nat) (hx : PE X (.Name x xp) (tVar i)) (hb : DX X e ρ eb ρ1 (.dat (.int j))) (h : atI ds j = some d) (hρ1 : ρ1[i]? = some (some (.ml ds)) := by rfl) (k0 : Kd) (hρ : ρ[i]? = some (some k0) := by rfl) (hs : PlainIx eb := by exact fun _ _ => rfl) : DX X e ρ (.Subscript (.Name x xp) eb pos) ρ1 (.dat d) :=
  PE.mono (pe_ix ix_list hx hb hs) fun σ H Q ⟨S, stk, c, o, q⟩ => by
    obtain ⟨v, e1, _⟩ := o.focus c hρ
    refine ⟨v, e1, S, stk, c, o, fun y H1 S1 c1 o1 => ?_⟩
    have hy := o1.dat
    simp only [Da] at hy
    obtain ⟨v', e2, o2, _⟩ := o1.drop.focus c1 hρ1
    rw [e1] at e2
    cases e2
    obtain ⟨p, xs, rfl, hp, hd⟩ := ml_at o2
    obtain ⟨u, e3, hu⟩ := hd.atI h
    exact ⟨p, xs, j, u, rfl, hy, SqL.of hp, e3, q u H1 S1 c1 (o1.drop.push hu)⟩
theorem dx_lenM {x : Str} {xp p : Pos} {ds : List PyData} (i : Nat) (hx : PE X (.Name x xp) (tVar i)) (hm : X.mg "len" = none) (hρ : ρ[i]? = some (some (.ml ds)) := by rfl) (hg : Gl X "len" := by rfl) (he : starEach [.Name x xp] X.env = (false, eval (.Name x xp) X.env) :: starEach [] X.env := by rfl) : DX X e ρ (.Call (.Name "len" p) [.Name x xp] [] pos) ρ (.dat (.int (ds.length : Nat))) :=
  PE.mono (pe_callB call_len_seq hg hm PySem.boot_len (pa_cons hx pa_nil he) (by decide) (by decide) he (by rfl)) fun σ H Q ⟨S, stk, c, o, q⟩ => by
    obtain ⟨v, e1, o1, _⟩ := o.focus c hρ
    obtain ⟨p, xs, rfl, hp, hd⟩ := ml_at o1
    refine ⟨.ref p, e1, p, xs, rfl, .inl (SqL.of hp), ?_⟩
    rw [hd.len]
    exact q _ H S c (o.push (da_int _ _))
theorem ml_dp {K : PySem.W.Frag} {e : En} {L : En2} {H S : Hp} {ds : List PyData} {v : V} (o : Os K e ((.ml ds, v) :: L) H S) : Dp K H v (.list ds) := by
  obtain ⟨p, xs, rfl, hp, hd⟩ := ml_at o
  exact .lst (SqL.of hp) (DaL.dp o.same ds xs hd)
theorem dt_inM {x : Str} {xp : Pos} {ds : List PyData} {d : PyData} {lv : Nat} (i : Nat) (hr : Room (lv + 1) X.A) (ha : DX X e ρ ea ρ1 (.dat d)) (hx : PE X (.Name x xp) (tVar i)) (sd : SeqAt.shaped d = true) (ss : SeqAt.shaped (.list ds) = true) (hρ1 : ρ1[i]? = some (some (.ml ds)) := by rfl) (hm : behindInMarks .In (.Name x xp) = false := by rfl) : DT X e ρ (.Compare ea [.In] [.Name x xp] pos) ρ1 (isIn d ds) :=
  PT.mono (pt_cmpR (op_inD (by have := hr.un; omega)) ha hx hm) fun σ H Q ⟨S, stk, c, o, q⟩ => ⟨S, stk, c, o, fun y H1 S1 c1 o1 => by
    obtain ⟨v, e1, o2, _⟩ := o1.drop.focus c1 hρ1
    exact ⟨v, e1, d, ds, Da.dp o1.same d y o1.dat, ml_dp o2, sd, ss, _, rfl, q H1 S1 c1 o1.drop⟩⟩
theorem dt_notInM {x : Str} {xp : Pos} {ds : List PyData} {d : PyData} {lv : Nat} (i : Nat) (hr : Room (lv + 1) X.A) (ha : DX X e ρ ea ρ1 (.dat d)) (hx : PE X (.Name x xp) (tVar i)) (sd : SeqAt.shaped d = true) (ss : SeqAt.shaped (.list ds) = true) (hρ1 : ρ1[i]? = some (some (.ml ds)) := by rfl) (hm : behindInMarks .NotIn (.Name x xp) = false := by rfl) : DT X e ρ (.Compare ea [.NotIn] [.Name x xp] pos) ρ1 (!isIn d ds) :=
  PT.mono (pt_cmpR (op_notInD (by have := hr.un; omega)) ha hx hm) fun σ H Q ⟨S, stk, c, o, q⟩ => ⟨S, stk, c, o, fun y H1 S1 c1 o1 => by
    obtain ⟨v, e1, o2, _⟩ := o1.drop.focus c1 hρ1
    exact ⟨v, e1, d, ds, Da.dp o1.same d y o1.dat, ml_dp o2, sd, ss, _, rfl, q H1 S1 c1 o1.drop⟩⟩
theorem dt_eqM {x : Str} {xp : Pos} {ds : List PyData} {d : PyData} {lv : Nat} (i : Nat) (hr : Room lv X.A) (hx : PE X (.Name x xp) (tVar i)) (hb : DX X e ρ eb ρ (.dat d)) (sd : SeqAt.shaped d = true) (ss : SeqAt.shaped (.list ds) = true) (hρ : ρ[i]? = some (some (.ml ds)) := by rfl) : DT X e ρ (.Compare (.Name x xp) [.Eq] [eb] pos) ρ (PyData.eqv (.list ds) d) :=
  PT.mono (pt_cmpR (op_eqD hr.units) hx hb (nomark _)) fun σ H Q ⟨S, stk, c, o, q⟩ => by
    obtain ⟨v, e1, _⟩ := o.focus c hρ
    refine ⟨v, e1, S, stk, c, o, fun y H1 S1 c1 o1 => ?_⟩
    obtain ⟨v', e2, o2, _⟩ := o1.drop.focus c1 hρ
    rw [e1] at e2
    cases e2
    exact ⟨.list ds, d, ml_dp o2, Da.dp o1.same d y o1.dat, ss, sd, _, rfl, q H1 S1 c1 o1.drop⟩
theorem dt_neM {x : Str} {xp : Pos} {ds : List PyData} {d : PyData} {lv : Nat} (i : Nat) (hr : Room lv X.A) (hx : PE X (.Name x xp) (tVar i)) (hb : DX X e ρ eb ρ (.dat d)) (sd : SeqAt.shaped d = true) (ss : SeqAt.shaped (.list ds) = true) (hρ : ρ[i]? = some (some (.ml ds)) := by rfl) : DT X e ρ (.Compare (.Name x xp) [.NotEq] [eb] pos) ρ (!PyData.eqv (.list ds) d) :=
  PT.mono (pt_cmpR (op_neD hr.units) hx hb (nomark _)) fun σ H Q ⟨S, stk, c, o, q⟩ => by
    obtain ⟨v, e1, _⟩ := o.focus c hρ
    refine ⟨v, e1, S, stk, c, o, fun y H1 S1 c1 o1 => ?_⟩
    obtain ⟨v', e2, o2, _⟩ := o1.drop.focus c1 hρ
    rw [e1] at e2
    cases e2
    exact ⟨.list ds, d, ml_dp o2, Da.dp o1.same d y o1.dat, ss, sd, _, rfl, q H1 S1 c1 o1.drop⟩
/-- a slice of a list that a slot owns -/
theorem dx_slM {x : Str} {xp p2 : Pos} {lo hi : Option Expr} {a b : Option Int} {ds : List PyData} (i : Nat) (hx : PE X (.Name x xp) (tVar i)) (hl : DP X e ρ lo ρ a) (hh : DP X e ρ hi ρ b) (hρ : ρ[i]? = some (some (.ml ds)) := by rfl) : DX X e ρ (.Subscript (.Name x xp) (.Slice lo hi none p2) pos) ρ (.ml (cut ds a b)) :=
  PE.mono (pe_slice sl_list hx hl hh) fun σ H Q ⟨S, stk, c, o, q⟩ => by
    obtain ⟨v, e1, _⟩ := o.focus c hρ
    refine ⟨v, e1, S, stk, c, o, fun H2 S2 c2 o2 => ⟨S2, stk, c2, o2, fun H3 S3 c3 o3 => ?_⟩⟩
    obtain ⟨v', e2, o4, _⟩ := o3.focus c3 hρ
    rw [e1] at e2
    cases e2
    obtain ⟨p, xs, rfl, hp, hd⟩ := ml_at o4
    refine ⟨p, xs, rfl, SqL.of hp, fun q' hq => q _ _ _ c3 (o3.newO hq (fun xs z => by cases z) ?_)⟩
    simp only [Ho]
    exact ⟨q', _, rfl, rfl, upd_same, hd.cut a b⟩
end
end Ov
set_option Elab.async false
set_option linter.all false
set_option maxRecDepth 100000
set_option maxHeartbeats 1000000
namespace Ov
open PySem PySem.Spec PyProof.Rows L2

/-! ### statements -/
structure Po where
  nx : Rho → Prop := fun _ => False
  rt : Kd → Rho → Prop := fun _ _ => False
  bk : Rho → Prop := fun _ => False
  ct : Rho → Prop := fun _ => False
  ex : Addr → List (Str × PyData) → Rho → Prop := fun _ _ _ => False
/-- the slots that are never stored to, with the values of the parameters -/
abbrev Pins := List Nat × List V
def Pin (pn : Pins) (σ : L2.St) : Prop := ∀ i ∈ pn.1, σ[i]? = pn.2[i]?.map some
/-- what is wanted behind a statement, by what it leaves -/
structure Ct (K : PySem.W.Frag) (e : En) (pn : Pins) (W : L2.WX) (stk : En2) (P : Po) (D : Ends) : Prop where
  nx : ∀ ρ σ H S, P.nx ρ → Cov ρ σ → Pin pn σ → Os K e (stk ++ ents ρ σ) H S → D.nx σ H
  bk : ∀ ρ σ H S, P.bk ρ → Cov ρ σ → Pin pn σ → Os K e (stk ++ ents ρ σ) H S → D.bk σ H
  ct : ∀ ρ σ H S, P.ct ρ → Cov ρ σ → Pin pn σ → Os K e (stk ++ ents ρ σ) H S → D.ct σ H
  rt : ∀ k ρ v σ H S, P.rt k ρ → Cov ρ σ → Pin pn σ → Os K e ((k, v) :: (stk ++ ents ρ σ)) H S → D.rt v H
  ex : ∀ C fs d ρ σ H S, P.ex C fs ρ → Cov ρ σ → Pin pn σ → ExD K S fs d → Os K e (stk ++ ents ρ σ) H S → W (.ref C) d σ H
def tD (K : PySem.W.Frag) (e : En) (pn : Pins) (W : L2.WX) (ρ : Rho) (P : Po) : TS := fun D σ H => ∃ S stk, Cov ρ σ ∧ Pin pn σ ∧ Os K e (stk ++ ents ρ σ) H S ∧ Ct K e pn W stk P D
def DS (X : Cx) (e : En) (pn : Pins) (W : L2.WX) (ρ : Rho) (st : Stmt) (P : Po) : Prop := PS X st (tD X.K e pn W ρ P)
def DSs (X : Cx) (e : En) (pn : Pins) (W : L2.WX) (ρ : Rho) (st : List Stmt) (P : Po) : Prop := PSs X st (tD X.K e pn W ρ P)
/-- none of the pinned slots -/
def unp (pn : Pins) (ts : List Nat) : Bool := pn.1.all fun p => ts.all fun t => p != t
theorem Pin.keep {pn : Pins} {σ σ' : L2.St} {ts : List Nat} (h : Pin pn σ) (u : unp pn ts = true) (s : slots ts σ σ') : Pin pn σ' := fun p hp => by
  rw [s.2 p fun z => ?_]
  · exact h p hp
  · have := List.all_eq_true.mp (List.all_eq_true.mp u p hp) p z
    simp at this
theorem slots_set {i : Nat} {x : Option V} {σ : L2.St} : slots [i] σ (σ.set i x) := ⟨by rw [List.length_set], fun j hj => List.getElem?_set_ne fun z => hj (by simp [z])⟩
section
variable {X : Cx} {e : En} {pn : Pins} {W : L2.WX} {ρ ρ1 ρ2 ρ3 : Rho} {ea eb ec ex tg : Expr} {pos p : Pos} {k : Kd} {st : Stmt} {rest body els : List Stmt} {P : Po} {R : Rho → Prop}
theorem Ct.with_nx {K : PySem.W.Frag} {stk : En2} {D : Ends} (c : Ct K e pn W stk P D) {f : L2.St → Hp → Prop} (h : ∀ ρ σ H S, R ρ → Cov ρ σ → Pin pn σ → Os K e (stk ++ ents ρ σ) H S → f σ H) : Ct K e pn W stk { P with nx := R } { D with nx := f } := ⟨h, c.bk, c.ct, c.rt, c.ex⟩
theorem dss_nil (h : P.nx ρ) : DSs X e pn W ρ [] P := PSs.mono pss_nil fun D σ H ⟨S, stk, c, pi, o, C⟩ => C.nx ρ σ H S h c pi o
theorem dss_cons (h : DS X e pn W ρ st { P with nx := R }) (h2 : ∀ ρ', R ρ' → DSs X e pn W ρ' rest P) : DSs X e pn W ρ (st :: rest) P :=
  PSs.mono (pss_cons h (pss_ex (t := fun ρ' => tD X.K e pn W ρ' P) (p := R) h2)) fun D σ H ⟨S, stk, c, pi, o, C⟩ => ⟨S, stk, c, pi, o, C.with_nx fun ρ' σ' H' S' r c' pi' o' => ⟨ρ', r, S', stk, c', pi', o', C⟩⟩
/-- a statement that leads to one state of the slots -/
theorem dss_one (h : DS X e pn W ρ st { P with nx := (· = ρ1) }) (h2 : DSs X e pn W ρ1 rest P) : DSs X e pn W ρ (st :: rest) P := dss_cons h fun ρ' r => r ▸ h2
theorem dss_eq (h : DSs X e pn W ρ1 body P) (z : ρ = ρ1) : DSs X e pn W ρ body P := z ▸ h
/-- a slot forgotten; an owned list made data -/
theorem dss_forget (i : Nat) (h : DSs X e pn W (ρ.set i none) body P) : DSs X e pn W ρ body P := PSs.mono h fun D σ H ⟨S, stk, c, pi, o, C⟩ => by
  obtain ⟨o', c'⟩ := o.forget i c
  exact ⟨S, stk, c', pi, o', C⟩
theorem dss_fz (i : Nat) {ds : List PyData} (h : DSs X e pn W (ρ.set i (some (.dat (.list ds)))) body P) (hρ : ρ[i]? = some (some (.ml ds)) := by rfl) : DSs X e pn W ρ body P := PSs.mono h fun D σ H ⟨S, stk, c, pi, o, C⟩ => by
  obtain ⟨v, _, o1, back⟩ := o.focus c hρ
  obtain ⟨S', _, o2⟩ := o1.freeze
  obtain ⟨o3, c3⟩ := back _ stk e H S' o2
  exact ⟨S', stk, c3, pi, o3, C⟩
theorem dss_weak {P' : Po} (h : DSs X e pn W ρ body P') (h1 : ∀ ρ, P'.nx ρ → P.nx ρ) (h2 : ∀ k ρ, P'.rt k ρ → P.rt k ρ) (h3 : ∀ ρ, P'.bk ρ → P.bk ρ) (h4 : ∀ ρ, P'.ct ρ → P.ct ρ) (h5 : ∀ C fs ρ, P'.ex C fs ρ → P.ex C fs ρ) : DSs X e pn W ρ body P :=
  PSs.mono h fun D σ H ⟨S, stk, c, pi, o, C⟩ => ⟨S, stk, c, pi, o, ⟨fun ρ σ H S q => C.nx ρ σ H S (h1 _ q), fun ρ σ H S q => C.bk ρ σ H S (h3 _ q), fun ρ σ H S q => C.ct ρ σ H S (h4 _ q), fun k ρ v σ H S q => C.rt k ρ v σ H S (h2 _ _ q), fun A fs d ρ σ H S q => C.ex A fs d ρ σ H S (h5 _ _ _ q)⟩⟩
/-- x = e -/
theorem ds_set (i : Nat) {x : Str} {p' : Pos} (he : DX X e ρ ex ρ1 k) (hP : P.nx (ρ1.set i (some k))) (hN : X.N.Nodup) (hi : i < ρ1.length := by decide) (hx : X.N[i]? = some x := by rfl) (hv : Loc X.env.scope x := by first | exact Or.inl rfl | exact Or.inr rfl) (hu : unp pn [i] = true := by rfl)
    (hs : swapsWith ex (some (.Name x p')) pos.line X.env = pure false := by rfl) (hf : X.fn x = true ∨ X.env.scope.names.lookup x = some .local := by first | exact .inl rfl | exact .inr rfl | assumption) : DS X e pn W ρ (.Assign [.Name x p'] ex pos) P :=
  PS.mono (ps_set hN hx hv he hs hf) fun D σ H ⟨S, stk, c, pi, o, C⟩ => ⟨S, stk, c, o, fun v H1 S1 c1 o1 => by
    obtain ⟨o2, c2⟩ := o1.store (L := stk) hi c1
    exact C.nx _ _ _ S1 hP c2 (pi.keep hu slots_set) o2⟩
theorem dss_set (i : Nat) {x : Str} {p' : Pos} (he : DX X e ρ ex ρ1 k) (h2 : DSs X e pn W (ρ1.set i (some k)) rest P) (hN : X.N.Nodup) (hi : i < ρ1.length := by decide) (hx : X.N[i]? = some x := by rfl) (hv : Loc X.env.scope x := by first | exact Or.inl rfl | exact Or.inr rfl) (hu : unp pn [i] = true := by rfl)
    (hs : swapsWith ex (some (.Name x p')) pos.line X.env = pure false := by rfl) (hf : X.fn x = true ∨ X.env.scope.names.lookup x = some .local := by first | exact .inl rfl | exact .inr rfl | assumption) : DSs X e pn W ρ (.Assign [.Name x p'] ex pos :: rest) P :=
  dss_one (ds_set i he rfl hN hi hx hv hu hs hf) h2
/-- x = [e for ..] on one line -/
theorem dss_setLc {α : Type} {l : List α} {enc : α → PyData} {elt iter : Expr} {ifs : List Expr} {scope : Scope} {own : List (Str × Nat)} {c : α → Bool} {f : α → PyData} (i : Nat) {y : Str} {py spos : Pos} (ρd : α → Rho) (ts : List Nat) (hN : X.N.Nodup) (hc : X.calm = true)
    (hi : DI X e ρ tg iter ρ1 (l.map enc)) (ok : BlkOk X.N X.env.scope scope own)
    (hg : ∀ (s : Shared) (H : Hp) (C : Addr) (cl : List (Str × Addr)) (fp : List Addr) (d : α), d ∈ l → DG (X.blk s H scope (compEnvC scope cl C X.env) fp) e (wipeR ρ1 (own.map (·.2))) tg (.dat (enc d)) (ρd d) ts)
    (ht : ∀ (s : Shared) (H : Hp) (C : Addr) (cl : List (Str × Addr)) (fp : List Addr) (d : α), d ∈ l → DTs (X.blk s H scope (compEnvC scope cl C X.env) fp) e (ρd d) ifs (ρd d) (c d))
    (he : ∀ (s : Shared) (H : Hp) (C : Addr) (cl : List (Str × Addr)) (fp : List Addr) (d : α), d ∈ l → c d = true → DX (X.blk s H scope (compEnvC scope cl C X.env) fp) e (ρd d) elt (ρd d) (.dat (f d)))
    (hts : ∀ t ∈ ts, t ∈ own.map (·.2)) (hw : ∀ d ∈ l, wipeR (ρd d) (own.map (·.2)) = wipeR ρ1 (own.map (·.2)))
    (h2 : DSs X e pn W (ρ1.set i (some (.ml (comp c f l)))) rest P) (hsw : swapsWith (.ListComp elt [⟨tg, iter, ifs, 0⟩] scope pos) (some (.Name y py)) spos.line X.env = pure true)
    (hyl : X.env.scope.names.lookup y = some .local) (hy : X.N[i]? = some y := by rfl) (hl : i < ρ1.length := by decide) (hu : unp pn [i] = true := by rfl) (hs : ∀ x, foldedSetIterable iter X.env x = pure x := by intro _; rfl) :
    DSs X e pn W ρ (.Assign [.Name y py] (.ListComp elt [⟨tg, iter, ifs, 0⟩] scope pos) spos :: rest) P := by
  refine dss_one (ρ1 := ρ1.set i (some (.ml (comp c f l)))) ?_ h2
  refine PS.mono (ps_setLc hc hN hy hyl hsw hi ok (fun s H C cl fp => pg_ex (X := X.blk s H scope (compEnvC scope cl C X.env) fp) (tg := tg) (t := fun d : α => tG X.K e (wipeR ρ1 (List.map (fun p : Str × Nat => p.2) own)) (.dat (enc d)) (ρd d) ts) (p := fun d => d ∈ l) fun d md => hg s H C cl fp d md) (fun s H C cl fp => pts_ex (X := X.blk s H scope (compEnvC scope cl C X.env) fp) (t := fun d : α => tT X.K e (ρd d) (ρd d) (c d)) (p := fun d => d ∈ l) fun d md => ht s H C cl fp d md) (fun s H C cl fp => pe_ex (X := X.blk s H scope (compEnvC scope cl C X.env) fp) (t := fun d : α => tX X.K e (ρd d) (ρd d) (.dat (f d))) (p := fun d => d ∈ l ∧ c d = true) fun d md => he s H C cl fp d md.1 md.2) hs)
    fun D σ H ⟨S, stk, c0, pi, o, C⟩ => lc_turn rfl rfl rfl hts hw rfl ⟨S, stk, c0, o, fun v H1 S1 c1 o1 => ?_⟩
  obtain ⟨o2, c2⟩ := o1.store (L := stk) hl c1
  exact C.nx _ _ _ S1 rfl c2 (pi.keep hu slots_set) o2
/-- a, b = e and its like -/
theorem dss_asg {ts : List Nat} (he : DX X e ρ ex ρ1 k) (hg : DG X e ρ1 tg k ρ2 ts) (h2 : DSs X e pn W ρ2 rest P) (hu : unp pn ts = true := by rfl) (hs : swapsWithSole [tg] ex pos.line X.env = pure false := by rfl) (hw : swappedStores [tg] ex X.env = pure none := by rfl)
    (h1 : (assignEach [tg] X.env).map (·.2) = [assign tg X.env] := by rfl) : DSs X e pn W ρ (.Assign [tg] ex pos :: rest) P :=
  dss_one (ρ1 := ρ2) (PS.mono (ps_asg he hg hs hw h1) fun D σ H ⟨S, stk, c, pi, o, C⟩ => ⟨S, stk, c, o, fun v H1 S1 c1 o1 => ⟨S1, stk, c1, o1, fun σ' H' S' s' c' o' => C.nx _ _ _ S' rfl c' (pi.keep hu s') o'⟩⟩) h2
/-- a, b = e1, e2 -/
theorem dss_par (i j : Nat) {x y : Str} {px py pt : Pos} {kt k2 pt2} {k1 k2' : Kd} (ha : DA X e ρ [ea, eb] ρ1 [.pu k1, .pu k2']) (h2 : DSs X e pn W ((ρ1.set i (some k1)).set j (some k2')) rest P) (hN : X.N.Nodup) (hc : X.calm = true := by rfl) (hi : X.N[i]? = some x := by rfl) (hj : X.N[j]? = some y := by rfl) (hij : i ≠ j := by decide)
    (hx : X.env.scope.names.lookup x = some .local := by rfl) (hy : X.env.scope.names.lookup y = some .local := by rfl) (hi2 : i < ρ1.length := by decide) (hj2 : j < ρ1.length := by decide) (hu : unp pn [i, j] = true := by rfl)
    (hw : swappedStores [.Tuple [.Name x px, .Name y py] kt pt] (.Tuple [ea, eb] k2 pt2) X.env = pure (some [x, y]) := by rfl)
    (hs : swapsWithSole [.Tuple [.Name x px, .Name y py] kt pt] (.Tuple [ea, eb] k2 pt2) pos.line X.env = pure false := by rfl) :
    DSs X e pn W ρ (.Assign [.Tuple [.Name x px, .Name y py] kt pt] (.Tuple [ea, eb] k2 pt2) pos :: rest) P :=
  dss_one (ρ1 := (ρ1.set i (some k1)).set j (some k2')) (PS.mono (ps_par hc hN hi hj hij hx hy ha hw hs) fun D σ H ⟨S, stk, c, pi, o, C⟩ => ⟨S, stk, c, o, fun vs H1 S1 c1 ok o1 => by
    match vs, ok, o1 with
    | [v, w], _, o1 =>
      have o1 : Os X.K e ((k1, v) :: (k2', w) :: (stk ++ ents ρ1 σ)) H1 S1 := o1
      refine ⟨v, w, rfl, ?_⟩
      obtain ⟨o2, c2⟩ := Os.store (L := (k2', w) :: stk) hi2 c1 o1
      obtain ⟨o3, c3⟩ := Os.store (L := stk) (i := j) (by rw [List.length_set]; exact hj2) c2 o2
      refine C.nx _ _ _ S1 rfl c3 (pi.keep hu ⟨by rw [List.length_set, List.length_set], fun l hl => ?_⟩) o3
      simp only [List.mem_cons, List.not_mem_nil, or_false, not_or] at hl
      rw [List.getElem?_set_ne (Ne.symm hl.2), List.getElem?_set_ne (Ne.symm hl.1)]
    | [], ok, _ => exact ok.elim
    | [_], ok, _ => exact ok.elim
    | _ :: _ :: _ :: _, ok, _ => exact ok.elim⟩) h2
/-- e, its value dropped -/
theorem dss_expr (he : DX X e ρ ex ρ1 k) (h2 : DSs X e pn W ρ1 rest P) (hs : swapsWith ex none pos.line X.env = pure false := by rfl) : DSs X e pn W ρ (.Expr ex pos :: rest) P :=
  dss_one (ρ1 := ρ1) (PS.mono (ps_expr he hs) fun D σ H ⟨S, stk, c, pi, o, C⟩ => ⟨S, stk, c, o, fun v H1 S1 c1 o1 => C.nx _ _ _ S1 rfl c1 pi o1.drop⟩) h2
theorem ds_ret (he : DX X e ρ ex ρ1 k) (hP : P.rt k ρ1) : DS X e pn W ρ (.Return (some ex) pos) P := PS.mono (ps_ret he) fun D σ H ⟨S, stk, c, pi, o, C⟩ => ⟨S, stk, c, o, fun v H1 S1 c1 o1 => C.rt k _ v σ H1 S1 hP c1 pi o1⟩
theorem dss_ret (he : DX X e ρ ex ρ1 k) (hP : P.rt k ρ1) : DSs X e pn W ρ (.Return (some ex) pos :: rest) P :=
  dss_cons (R := fun _ => False) (PS.mono (ps_ret he) fun D σ H ⟨S, stk, c, pi, o, C⟩ => ⟨S, stk, c, o, fun v H1 S1 c1 o1 => C.rt k _ v σ H1 S1 hP c1 pi o1⟩) fun _ z => z.elim
theorem dss_retN (hP : P.rt (.dat .none) ρ) : DSs X e pn W ρ (.Return none pos :: rest) P :=
  dss_cons (R := fun _ => False) (PS.mono ps_retN fun D σ H ⟨S, stk, c, pi, o, C⟩ => C.rt _ _ .non σ H S hP c pi (o.push (by simp only [Da]))) fun _ z => z.elim
theorem dss_pass (h2 : DSs X e pn W ρ rest P) : DSs X e pn W ρ (.Pass pos :: rest) P := dss_one (ρ1 := ρ) (PS.mono ps_pass fun D σ H ⟨S, stk, c, pi, o, C⟩ => C.nx _ _ _ S rfl c pi o) h2
theorem dss_break (hP : P.bk ρ) : DSs X e pn W ρ (.Break pos :: rest) P := dss_cons (R := fun _ => False) (PS.mono ps_break fun D σ H ⟨S, stk, c, pi, o, C⟩ => C.bk _ _ _ S hP c pi o) fun _ z => z.elim
theorem dss_continue (hP : P.ct ρ) : DSs X e pn W ρ (.Continue pos :: rest) P := dss_cons (R := fun _ => False) (PS.mono ps_continue fun D σ H ⟨S, stk, c, pi, o, C⟩ => C.ct _ _ _ S hP c pi o) fun _ z => z.elim
theorem dss_never (h : False) : DSs X e pn W ρ body P := h.elim
/-- if; R: what holds behind it -/
theorem ds_if {b : Bool} (hc : DT X e ρ ec ρ1 b) (h1 : b = true → DSs X e pn W ρ1 body P) (h2 : b = false → DSs X e pn W ρ1 els P) : DS X e pn W ρ (.If ec body els pos) P := by
  have g1 : PSs X body (fun D σ H => b = true ∧ tD X.K e pn W ρ1 P D σ H) := ⟨fun pins s σ H D I q => (h1 q.1).run pins s σ H D I q.2⟩
  have g2 : PSs X els (fun D σ H => b = false ∧ tD X.K e pn W ρ1 P D σ H) := ⟨fun pins s σ H D I q => (h2 q.1).run pins s σ H D I q.2⟩
  refine PS.mono (ps_if hc g1 g2) fun D σ H ⟨S, stk, c, pi, o, C⟩ => ⟨S, stk, c, o, fun H1 S1 c1 o1 => ?_⟩
  cases b with
  | true => exact iteT ⟨rfl, S1, stk, c1, pi, o1, C⟩
  | false => exact iteF ⟨rfl, S1, stk, c1, pi, o1, C⟩
theorem dss_if (R : Rho → Prop) {b : Bool} (hc : DT X e ρ ec ρ1 b) (h1 : b = true → DSs X e pn W ρ1 body { P with nx := R }) (h2 : b = false → DSs X e pn W ρ1 els { P with nx := R }) (h3 : ∀ ρ', R ρ' → DSs X e pn W ρ' rest P) : DSs X e pn W ρ (.If ec body els pos :: rest) P := dss_cons (ds_if hc h1 h2) h3
/-- if whose first way does not come back -/
theorem dss_ifR {b : Bool} (hc : DT X e ρ ec ρ1 b) (h1 : b = true → DSs X e pn W ρ1 body { P with nx := fun _ => False }) (h2 : b = false → DSs X e pn W ρ1 rest P) : DSs X e pn W ρ (.If ec body [] pos :: rest) P :=
  dss_if (fun ρ' => ρ' = ρ1 ∧ b = false) hc (fun z => dss_weak (h1 z) (fun _ z => z.elim) (fun _ _ z => z) (fun _ z => z) (fun _ z => z) fun _ _ _ z => z) (fun z => dss_nil ⟨rfl, z⟩) fun ρ' ⟨z1, z2⟩ => z1 ▸ h2 z2
/-- if without a way out -/
theorem dss_if1 {b : Bool} (hc : DT X e ρ ec ρ1 b) (h1 : b = true → DSs X e pn W ρ1 body { P with nx := (· = ρ2) }) (h2 : b = false → DSs X e pn W ρ1 els { P with nx := (· = ρ2) }) (h3 : DSs X e pn W ρ2 rest P) : DSs X e pn W ρ (.If ec body els pos :: rest) P := dss_if (· = ρ2) hc h1 h2 fun ρ' z => z ▸ h3
/-- for: inv by the turn -/
theorem ds_for {iter : Expr} {ds : List PyData} (inv : Nat → Rho → Prop) (G : Nat → Rho → PyData → Rho) (ts : List Nat) (hp : PassesOwn (model X.prog X.w) X.A X.env X.xe) (hc : X.calm = true) (hi : DI X e ρ tg iter ρ1 ds) (h0 : inv 0 ρ1)
    (hg : ∀ i d ρ', ds[i]? = some d → inv i ρ' → DG X e ρ' tg (.dat d) (G i ρ' d) ts) (hb : ∀ i d ρ', ds[i]? = some d → inv i ρ' → DSs X e pn W (G i ρ' d) body { P with nx := inv (i + 1), ct := inv (i + 1), bk := P.nx }) (hd : ∀ ρ', inv ds.length ρ' → P.nx ρ') (hu : unp pn ts = true := by rfl)
    (hs : ∀ x, foldedSetIterable iter X.env x = pure x := by intro _; rfl) : DS X e pn W ρ (.For tg iter body [] pos) P := by
  let A := Nat × PyData × Rho
  have g1 : PG X tg (fun v σ H Q => ∃ a : A, (ds[a.1]? = some a.2.1 ∧ inv a.1 a.2.2) ∧ tG X.K e a.2.2 (.dat a.2.1) (G a.1 a.2.2 a.2.1) ts v σ H Q) := pg_ex (t := fun a : A => tG X.K e a.2.2 (.dat a.2.1) (G a.1 a.2.2 a.2.1) ts) fun a q => hg a.1 a.2.1 a.2.2 q.1 q.2
  have g2 : PSs X body (fun D σ H => ∃ a : A, (ds[a.1]? = some a.2.1 ∧ inv a.1 a.2.2) ∧ tD X.K e pn W (G a.1 a.2.2 a.2.1) { P with nx := inv (a.1 + 1), ct := inv (a.1 + 1), bk := P.nx } D σ H) := pss_ex (t := fun a : A => tD X.K e pn W (G a.1 a.2.2 a.2.1) { P with nx := inv (a.1 + 1), ct := inv (a.1 + 1), bk := P.nx }) fun a q => hb a.1 a.2.1 a.2.2 q.1 q.2
  refine PS.mono (ps_for hp hc hi g1 g2 hs) fun D σ H ⟨S, stk, c, pi, o, C⟩ => ⟨S, stk, c, o, fun J L0 H1 S1 hz Wk c1 o1 => ?_⟩
  refine ⟨fun i m σ' H' => m = ds.length - i ∧ i ≤ ds.length ∧ ∃ ρ' S', inv i ρ' ∧ Cov ρ' σ' ∧ Pin pn σ' ∧ Os X.K e (L0 ++ (stk ++ ents ρ' σ')) H' S', ⟨ds.length, rfl, Nat.zero_le _, ρ1, S1, h0, c1, pi, o1⟩, ?_⟩
  rintro i m σ' H' ⟨rfl, hi, ρ', S', v', c', pi', o'⟩
  by_cases hlt : i < ds.length
  · have hd' : ds[i]? = some ds[i] := List.getElem?_eq_getElem hlt
    refine .inr ⟨Wk.goes i H' S' _ hlt o', fun σ2 H2 => ∃ ρ2 S2, inv (i + 1) ρ2 ∧ Cov ρ2 σ2 ∧ Pin pn σ2 ∧ Os X.K e (L0 ++ (stk ++ ents ρ2 σ2)) H2 S2, fun σ2 H2 q => ⟨ds.length - (i + 1), by omega, rfl, hlt, q⟩, fun x H2 y => ?_⟩
    obtain ⟨S2, o2⟩ := Wk.yields i H' S' _ x H2 _ hd' o' y
    refine ⟨(i, ds[i], ρ'), ⟨hd', v'⟩, S2, L0 ++ stk, c', by rw [List.append_assoc]; exact o2, fun σ3 H3 S3 s3 c3 o3 => ?_⟩
    refine ⟨(i, ds[i], ρ'), ⟨hd', v'⟩, S3, L0 ++ stk, c3, pi'.keep hu s3, o3, ⟨fun ρ σ H S q c p o => ⟨ρ, S, q, c, p, by rw [← List.append_assoc]; exact o⟩, fun ρ σ H S q c p o => C.nx ρ σ H S q c p ?_, fun ρ σ H S q c p o => ⟨ρ, S, q, c, p, by rw [← List.append_assoc]; exact o⟩, fun k ρ v σ H S q c p o => C.rt k ρ v σ H S q c p ?_, fun A fs d ρ σ H S q c p x o => C.ex A fs d ρ σ H S q c p x ?_⟩⟩
    · rw [List.append_assoc] at o
      exact o.drops
    · rw [List.append_assoc] at o
      exact (o.perm List.perm_middle.symm).drops
    · rw [List.append_assoc] at o
      exact o.drops
  · have e1 : i = ds.length := by omega
    subst e1
    exact .inl ⟨Wk.stops H' S' _ o', C.nx ρ' σ' H' S' (hd ρ' v') c' pi' o'.drops⟩
theorem dss_for {iter : Expr} {ds : List PyData} (inv : Nat → Rho → Prop) (G : Nat → Rho → PyData → Rho) (ts : List Nat) (R : Rho → Prop) (hp : PassesOwn (model X.prog X.w) X.A X.env X.xe) (hc : X.calm = true) (hi : DI X e ρ tg iter ρ1 ds) (h0 : inv 0 ρ1)
    (hg : ∀ i d ρ', ds[i]? = some d → inv i ρ' → DG X e ρ' tg (.dat d) (G i ρ' d) ts) (hb : ∀ i d ρ', ds[i]? = some d → inv i ρ' → DSs X e pn W (G i ρ' d) body { P with nx := inv (i + 1), ct := inv (i + 1), bk := R }) (hd : ∀ ρ', inv ds.length ρ' → R ρ') (h2 : ∀ ρ', R ρ' → DSs X e pn W ρ' rest P) (hu : unp pn ts = true := by rfl)
    (hs : ∀ x, foldedSetIterable iter X.env x = pure x := by intro _; rfl) : DSs X e pn W ρ (.For tg iter body [] pos :: rest) P :=
  dss_cons (ds_for (P := { P with nx := R }) inv G ts hp hc hi h0 hg hb hd hu hs) h2
/-- while: inv by a measure -/
theorem ds_while (inv : Nat → Rho → Prop) (b : Nat → Rho → Bool) (hp : PassesOwn (model X.prog X.w) X.A X.env X.xe) (h0 : ∃ m, inv m ρ) (hc : ∀ m ρ', inv m ρ' → DT X e ρ' ec ρ' (b m ρ')) (hb : ∀ m ρ', inv m ρ' → b m ρ' = true → DSs X e pn W ρ' body { P with nx := fun ρ'' => ∃ m', m' < m ∧ inv m' ρ'', ct := fun ρ'' => ∃ m', m' < m ∧ inv m' ρ'', bk := P.nx })
    (hd : ∀ m ρ', inv m ρ' → b m ρ' = false → P.nx ρ') : DS X e pn W ρ (.While ec body [] pos) P := by
  have g1 : PT X ec (fun σ H Q => ∃ a : Nat × Rho, inv a.1 a.2 ∧ tT X.K e a.2 a.2 (b a.1 a.2) σ H Q) := ⟨fun pins s σ H Q I ⟨a, pa, q⟩ => (hc a.1 a.2 pa).run pins s σ H Q I q⟩
  have g2 : PSs X body (fun D σ H => ∃ a : Nat × Rho, (inv a.1 a.2 ∧ b a.1 a.2 = true) ∧ tD X.K e pn W a.2 { P with nx := fun ρ'' => ∃ m', m' < a.1 ∧ inv m' ρ'', ct := fun ρ'' => ∃ m', m' < a.1 ∧ inv m' ρ'', bk := P.nx } D σ H) := pss_ex (t := fun a : Nat × Rho => tD X.K e pn W a.2 { P with nx := fun ρ'' => ∃ m', m' < a.1 ∧ inv m' ρ'', ct := fun ρ'' => ∃ m', m' < a.1 ∧ inv m' ρ'', bk := P.nx }) fun a q => hb a.1 a.2 q.1 q.2
  refine PS.mono (ps_while hp g1 g2) fun D σ H ⟨S, stk, c, pi, o, C⟩ => ?_
  obtain ⟨m0, i0⟩ := h0
  refine ⟨fun m σ' H' => ∃ ρ' S', inv m ρ' ∧ Cov ρ' σ' ∧ Pin pn σ' ∧ Os X.K e (stk ++ ents ρ' σ') H' S', ⟨m0, ρ, S, i0, c, pi, o⟩, ?_⟩
  rintro m σ' H' ⟨ρ', S', v', c', pi', o'⟩
  refine ⟨(m, ρ'), v', S', stk, c', o', fun H1 S1 c1 o1 => ?_⟩
  cases hb : b m ρ' with
  | true =>
    refine iteT ⟨fun σ2 H2 => ∃ m', m' < m ∧ ∃ ρ2 S2, inv m' ρ2 ∧ Cov ρ2 σ2 ∧ Pin pn σ2 ∧ Os X.K e (stk ++ ents ρ2 σ2) H2 S2, fun σ2 H2 q => q, (m, ρ'), ⟨v', hb⟩, S1, stk, c1, pi', o1, ⟨?_, C.nx, ?_, C.rt, C.ex⟩⟩
    · rintro ρ σ H S ⟨m', hm, q⟩ c p o
      exact ⟨m', hm, ρ, S, q, c, p, o⟩
    · rintro ρ σ H S ⟨m', hm, q⟩ c p o
      exact ⟨m', hm, ρ, S, q, c, p, o⟩
  | false => exact iteF (C.nx ρ' σ' H1 S1 (hd m ρ' v' hb) c1 pi' o1)
theorem dss_while (inv : Nat → Rho → Prop) (b : Nat → Rho → Bool) (R : Rho → Prop) (hp : PassesOwn (model X.prog X.w) X.A X.env X.xe) (h0 : ∃ m, inv m ρ) (hc : ∀ m ρ', inv m ρ' → DT X e ρ' ec ρ' (b m ρ')) (hb : ∀ m ρ', inv m ρ' → b m ρ' = true → DSs X e pn W ρ' body { P with nx := fun ρ'' => ∃ m', m' < m ∧ inv m' ρ'', ct := fun ρ'' => ∃ m', m' < m ∧ inv m' ρ'', bk := R })
    (hd : ∀ m ρ', inv m ρ' → b m ρ' = false → R ρ') (h2 : ∀ ρ', R ρ' → DSs X e pn W ρ' rest P) : DSs X e pn W ρ (.While ec body [] pos :: rest) P := dss_cons (ds_while (P := { P with nx := R }) inv b hp h0 hc hb hd) h2
/-- x op= e, ints -/
theorem dss_aug (i : Nat) {x : Str} {p' : Pos} {op : Operator} {f : Int → Int → Int} {a b : Int} (he : DX X e ρ ex ρ1 (.dat (.int b))) (ho : PIp X op (ipI f)) (h2 : DSs X e pn W (ρ1.set i (some (.dat (.int (f a b))))) rest P) (hN : X.N.Nodup) (hρ : ρ[i]? = some (some (.dat (.int a))) := by rfl) (hx : X.N[i]? = some x := by rfl) (hv : Loc X.env.scope x := by first | exact Or.inl rfl | exact Or.inr rfl) (hi : i < ρ1.length := by decide) (hu : unp pn [i] = true := by rfl)
    (hf : X.fn x = true ∨ X.env.scope.names.lookup x = some .local := by first | exact .inl rfl | exact .inr rfl | assumption) : DSs X e pn W ρ (.AugAssign (.Name x p') op ex pos :: rest) P :=
  dss_one (ρ1 := ρ1.set i (some (.dat (.int (f a b))))) (PS.mono (ps_aug hN hx hv he ho hf) fun D σ H ⟨S, stk, c, pi, o, C⟩ => by
    obtain ⟨v, e1, hv⟩ := o.slot c hρ
    simp only [Da] at hv
    subst hv
    refine ⟨_, e1, S, stk, c, o, fun y H1 S1 c1 o1 => ?_⟩
    have hy := o1.dat
    simp only [Da] at hy
    refine ⟨a, b, rfl, hy, ?_⟩
    obtain ⟨o2, c2⟩ := Os.store (L := stk) hi c1 (o1.drop.push (da_int (i := f a b) X.K S1))
    exact C.nx _ _ _ S1 rfl c2 (pi.keep hu slots_set) o2) h2
/-- x[j] = e, x a slot that owns a list -/
theorem dss_sub (i : Nat) {x : Str} {xp sp : Pos} {d : PyData} {j : Int} {n : Nat} {ds : List PyData} (he : DX X e ρ ex ρ1 (.dat d)) (hx : PE X (.Name x xp) (tVar i)) (hj : DX X e ρ1 eb ρ2 (.dat (.int j))) (hn : ixN ds.length j = some n) (h2 : DSs X e pn W (ρ2.set i (some (.ml (ds.set n d)))) rest P) (hρ : ρ2[i]? = some (some (.ml ds)) := by rfl) (k0 : Kd) (hρ1 : ρ1[i]? = some (some k0) := by rfl)
    (ha : ∀ v, assign (.Subscript (.Name x xp) eb sp) X.env v = (do
      let ov ← holding [v] (eval (.Name x xp) X.env)
      let iv ← holding [v, ov] (eval eb X.env)
      standAt sp
      holding [v, ov, iv] (setItem ov iv v)
      release [v, ov, iv] []) := by intro _; rfl)
    (hs : swapsWithSole [.Subscript (.Name x xp) eb sp] ex pos.line X.env = pure false := by rfl) (hw : swappedStores [.Subscript (.Name x xp) eb sp] ex X.env = pure none := by rfl)
    (h1 : (assignEach [.Subscript (.Name x xp) eb sp] X.env).map (·.2) = [assign (.Subscript (.Name x xp) eb sp) X.env] := by rfl) : DSs X e pn W ρ (.Assign [.Subscript (.Name x xp) eb sp] ex pos :: rest) P :=
  dss_one (ρ1 := ρ2.set i (some (.ml (ds.set n d)))) (PS.mono (ps_asg he (pg_sub hx hj set_list ha) hs hw h1) fun D σ H ⟨S, stk, c, pi, o, C⟩ => ⟨S, stk, c, o, fun v H1 S1 c1 o1 => by
    obtain ⟨u, e1, _⟩ := o1.focus (L := (.dat d, v) :: stk) c1 hρ1
    refine ⟨u, e1, S1, (.dat d, v) :: stk, c1, o1, fun y H2 S2 c2 o2 => ?_⟩
    have hy := o2.dat
    simp only [Da] at hy
    have hv : Da X.K S2 d v := (o2.drop).dat
    obtain ⟨u', e2, o3, back⟩ := (show Os X.K e (stk ++ ents ρ2 σ) H2 S2 from o2.drop.drop).focus c2 hρ
    rw [e1] at e2
    cases e2
    obtain ⟨p, xs, rfl, hp, hd⟩ := ml_at o3
    refine ⟨p, xs, j, n, rfl, hy, hp, by rw [hd.len]; exact hn, ?_⟩
    obtain ⟨o5, c5⟩ := back _ stk e _ S2 (o3.ml_set (hd.set hv n))
    exact C.nx _ _ _ S2 rfl c5 pi o5⟩) h2
end
end Ov
set_option Elab.async false
set_option linter.all false
set_option maxRecDepth 100000
set_option maxHeartbeats 1000000
namespace Ov
open PySem PySem.Spec PyProof.Rows L2
/-! ### a def keeps its promise -/
def isDat : Kd → Bool
  | .dat _ => true
  | _ => false
/-- the parameters that are more than data -/
def pinOf (n : Nat) : List Kd → List Nat
  | [] => []
  | k :: ks => if isDat k then pinOf (n + 1) ks else n :: pinOf (n + 1) ks
def rho0 (N : List Str) (ks : List Kd) : Rho := ks.map some ++ List.replicate (N.length - ks.length) none
/-- what the slots of such parameters hold in the end -/
def fin (is : List Nat) (ks' : List Kd) (ρ : Rho) : Prop := ∀ i ∈ is, ρ[i]? = ks'[i]?.map some
theorem fin_nil {ks' : List Kd} {ρ : Rho} : fin [] ks' ρ := fun _ h => nomatch h
/-- what is wanted of a body -/
def goal (is : List Nat) (ks' : List Kd) : Res → Po
  | .ret k => { rt := fun k' ρ => k' = k ∧ fin is ks' ρ, nx := fun ρ => k = .dat .none ∧ fin is ks' ρ }
  | .exc C fs => { ex := fun C' fs' ρ => C' = C ∧ fs' = fs ∧ fin is ks' ρ }
/-- parameters: data stays data -/
def keepD : List Kd → List Kd → Prop
  | [], [] => True
  | .dat d :: ks, k' :: ks' => k' = .dat d ∧ keepD ks ks'
  | _ :: ks, _ :: ks' => keepD ks ks'
  | _, _ => False
theorem keepD.len : ∀ {ks ks' : List Kd}, keepD ks ks' → ks'.length = ks.length
  | [], [], _ => rfl
  | [], _ :: _, h => h.elim
  | .dat d :: ks, k' :: ks', h => by simp only [keepD] at h; simp [keepD.len h.2]
  | .ml _ :: ks, k' :: ks', h => by simp only [keepD] at h; simp [keepD.len h]
  | .dk _ :: ks, k' :: ks', h => by simp only [keepD] at h; simp [keepD.len h]
  | .dt _ :: ks, k' :: ks', h => by simp only [keepD] at h; simp [keepD.len h]
  | .ob _ _ _ :: ks, k' :: ks', h => by simp only [keepD] at h; simp [keepD.len h]
  | .pin _ _ :: ks, k' :: ks', h => by simp only [keepD] at h; simp [keepD.len h]
  | .scr _ :: ks, k' :: ks', h => by simp only [keepD] at h; simp [keepD.len h]
  | .any :: ks, k' :: ks', h => by simp only [keepD] at h; simp [keepD.len h]
  | .dat _ :: _, [], h => by simp [keepD] at h
  | .ml _ :: _, [], h => by simp [keepD] at h
  | .dk _ :: _, [], h => by simp [keepD] at h
  | .dt _ :: _, [], h => by simp [keepD] at h
  | .ob _ _ _ :: _, [], h => by simp [keepD] at h
  | .pin _ _ :: _, [], h => by simp [keepD] at h
  | .scr _ :: _, [], h => by simp [keepD] at h
  | .any :: _, [], h => by simp [keepD] at h
theorem keepD_dats : ∀ ds : List PyData, keepD (ds.map Kd.dat) (ds.map Kd.dat)
  | [] => trivial
  | _ :: ds => ⟨rfl, keepD_dats ds⟩
theorem pin_dats : ∀ (ds : List PyData) (n : Nat), pinOf n (ds.map Kd.dat) = []
  | [], _ => rfl
  | _ :: ds, n => pin_dats ds (n + 1)
theorem keepD_cons {k k' : Kd} {ks ks' : List Kd} (h : keepD (k :: ks) (k' :: ks')) : keepD ks ks' ∧ (∀ d, k = .dat d → k' = .dat d) := by
  cases k <;> simp only [keepD] at h <;> first
    | exact ⟨h.2, fun d z => by cases z; exact h.1⟩
    | exact ⟨h, fun d z => by cases z⟩
section
variable {K : PySem.W.Frag} {e : En}
theorem ents_start : ∀ (ks : List Kd) (vs : List V) (n : Nat), ks.length = vs.length → Cov (ks.map some ++ List.replicate n none) (vs.map some ++ List.replicate n none) ∧ ents (ks.map some ++ List.replicate n none) (vs.map some ++ List.replicate n none) = ks.zip vs
  | [], [], 0, _ => ⟨trivial, rfl⟩
  | [], [], n + 1, _ => by
    have ih := ents_start [] [] n rfl
    simp only [List.map_nil, List.nil_append, List.replicate_succ, List.zip_nil_left] at ih ⊢
    exact ⟨ih.1, ih.2⟩
  | k :: ks, v :: vs, n, h => by
    have ih := ents_start ks vs n (by simpa using h)
    exact ⟨ih.1, by simp only [List.map_cons, List.cons_append, ents, ih.2, List.zip_cons_cons]⟩
  | [], _ :: _, _, h => by simp at h
  | _ :: _, [], _, h => by simp at h
/-- the entries of the parameters behind the body -/
theorem asm {S0 : Hp} : ∀ (ks ks' : List Kd) (vs : List V) (n : Nat) (ρ : Rho) (σ : L2.St) (L : En2) (H S : Hp), ks.length = vs.length → keepD ks ks' → (∀ i ∈ pinOf n ks, n ≤ i ∧ ρ[i - n]? = ks'[i - n]?.map some ∧ σ[i - n]? = vs[i - n]?.map some) →
    (∀ (i : Nat) (d : PyData) (v : V), ks[i]? = some (Kd.dat d) → vs[i]? = some v → Da K S0 d v) → Same S0 S → Os K e (L ++ ents ρ σ) H S → Os K e (L ++ ks'.zip vs) H S
  | [], [], [], n, ρ, σ, L, H, S, _, _, _, _, _, o => by
    have := o.perm List.perm_append_comm
    simpa using this.drops
  | [], _ :: _, _, _, _, _, _, _, _, _, h, _, _, _, _ => h.elim
  | k :: ks, k' :: ks', v :: vs, n, ρ, σ, L, H, S, hl, hk, hp, hd, hS, o => by
    obtain ⟨hk2, hk3⟩ := keepD_cons hk
    have hd2 : ∀ (i : Nat) (d : PyData) (u : V), ks[i]? = some (.dat d) → vs[i]? = some u → Da K S0 d u := fun i d u a b => hd (i + 1) d u (by simpa using a) (by simpa using b)
    have tail : ∀ (L : En2) (H S : Hp), Same S0 S → Os K e (L ++ ents ρ.tail σ.tail) H S → Os K e (L ++ ks'.zip vs) H S := fun L H S hS o => by
      refine asm ks ks' vs (n + 1) ρ.tail σ.tail L H S (by simpa using hl) hk2 (fun i hi => ?_) hd2 hS o
      have hi2 : i ∈ pinOf n (k :: ks) := by
        unfold pinOf
        split
        · exact hi
        · exact List.mem_cons_of_mem _ hi
      obtain ⟨h1, h2, h3⟩ := hp i hi2
      have h4 : n + 1 ≤ i := by
        clear o
        clear h1
        have g : ∀ (ks : List Kd) (m : Nat), i ∈ pinOf m ks → m ≤ i := by
          intro ks
          induction ks with
          | nil => intro m h; cases h
          | cons k ks ih =>
            intro m h
            unfold pinOf at h
            split at h
            · exact Nat.le_of_succ_le (ih _ h)
            · rcases List.mem_cons.mp h with rfl | h
              · exact Nat.le_refl _
              · exact Nat.le_of_succ_le (ih _ h)
        exact g ks (n + 1) hi
      have h5 : i - n = (i - (n + 1)) + 1 := by omega
      rw [h5] at h2 h3
      refine ⟨h4, ?_, ?_⟩
      · cases ρ with
        | nil => simpa using h2
        | cons r ρ => simpa using h2
      · cases σ with
        | nil => simpa using h3
        | cons r ρ => simpa using h3
    cases hk0 : isDat k with
    | true =>
      cases k with
      | dat d =>
        have e1 := hk3 d rfl
        subst e1
        have hv := hd 0 d v rfl rfl
        have o1 : Os K e (L ++ ents ρ.tail σ.tail) H S := by
          cases ρ with
          | nil => simpa [ents] using o
          | cons r ρ =>
            cases σ with
            | nil =>
              have e2 : ents (r :: ρ) [] = [] := by cases r <;> rfl
              rw [e2] at o
              have e3 : ents ρ [] = [] := by
                cases ρ with
                | nil => rfl
                | cons a b => cases a <;> rfl
              show Os K e (L ++ ents ρ []) H S
              rw [e3]
              exact o
            | cons s σ =>
              cases r with
              | none => exact o
              | some k0 =>
                cases s with
                | none => exact o
                | some u => exact (o.perm List.perm_middle).drop
        have o2 := tail L H S hS o1
        exact (o2.push (Da.mono hS d v hv)).perm List.perm_middle.symm
      | _ => cases hk0
    | false =>
      have hi2 : n ∈ pinOf n (k :: ks) := by
        unfold pinOf
        rw [hk0]
        simp
      obtain ⟨_, h2, h3⟩ := hp n hi2
      rw [Nat.sub_self] at h2 h3
      cases ρ with
      | nil => simp at h2
      | cons r ρ =>
        cases σ with
        | nil => simp at h3
        | cons s σ =>
          simp at h2 h3
          subst h2 h3
          have o1 : Os K e (((k', v) :: L) ++ ents ρ σ) H S := o.perm List.perm_middle
          have o2 := tail ((k', v) :: L) H S hS o1
          exact o2.perm List.perm_middle.symm
  | [], [], _ :: _, _, _, _, _, _, _, h, _, _, _, _, _ => by simp at h
  | _ :: _, _, [], _, _, _, _, _, _, h, _, _, _, _, _ => by simp at h
  | k :: _, [], _ :: _, _, _, _, _, _, _, _, h, _, _, _, _ => by cases k <;> simp [keepD] at h
end
/-- a def keeps its promise, by its body -/
theorem ok_of {P : Program} {w : World} {K : PySem.W.Frag} {mg : Str → Option Value} {base : Heap} {x qual : Str} {st : Stmt} {f : Addr} {fd : FuncData} {N ps : List Str} {k : Nat} {rel : Rel} (F : Fun K x qual st f fd) (Sc : FnScope N ps (defScope st))
    (hrel : ∀ ks ks' r, rel ks ks' r → ks.length = ps.length ∧ keepD ks ks')
    (body : ∀ (cdv : Value) (A : Around) (outer : List Env) (s : Shared) (H : Hp) (E : XK), Room k (A.deeper (envOfC qual (defScope st) s.heap.objs.size f cdv)) → ∀ (e : En) (vs : List V) (ks ks' : List Kd) (r : Res), rel ks ks' r →
      DSs (cxOf (L2.CX P w) P w K mg base N qual (defScope st) f cdv A outer s H E) e (pinOf 0 ks, vs) (fun cls d _ H => E cls d H) (rho0 N ks) (defBody st) (goal (pinOf 0 ks) ks' r)) :
    FnOk P w K mg base (L2.CX P w) (k + 1) f fd ps (spG K rel) := by
  refine F.okX Sc (fun vs H Q E h => ?_) (fun cdv A outer s H vs Q E hr h => ?_)
  · obtain ⟨S, ks, ks', r, fp, hr, h1, _⟩ := h
    rw [← h1]
    exact (hrel ks ks' r hr).1
  · obtain ⟨S, ks, ks', r, fp, hre, h1, h2, hsl, o, q⟩ := h
    obtain ⟨h3, hkd⟩ := hrel ks ks' r hre
    obtain ⟨c0, e0⟩ := ents_start ks vs (N.length - ks.length) h1
    have hst : L2.start N vs = vs.map some ++ List.replicate (N.length - ks.length) none := by
      unfold L2.start
      rw [h1]
    refine ⟨_, body cdv A outer s H E hr ⟨less H fp, S⟩ vs ks ks' r hre, S, [], by rw [hst]; exact c0, fun i hi => ?_, by rw [hst]; unfold rho0; rw [e0]; exact o, ?_⟩
    · rw [hst]
      have hi2 : i < vs.length := by
        rw [← h1]
        have g : ∀ (ks : List Kd) (m : Nat), i ∈ pinOf m ks → i < m + ks.length := by
          intro ks
          induction ks with
          | nil => intro m h; cases h
          | cons k ks ih =>
            intro m h
            unfold pinOf at h
            rw [List.length_cons]
            split at h
            · have := ih _ h; omega
            · rcases List.mem_cons.mp h with rfl | h
              · omega
              · have := ih _ h; omega
        have := g ks 0 hi
        omega
      rw [List.getElem?_append_left (by simpa using hi2), List.getElem?_map]
    · have data : ∀ (i : Nat) (d : PyData) (v : V), ks[i]? = some (.dat d) → vs[i]? = some v → Da K S d v := by
        have g : ∀ (ks : List Kd) (vs : List V) (L : En2), Os K ⟨less H fp, S⟩ (ks.zip vs ++ L) H S → ∀ (i : Nat) (d : PyData) (v : V), ks[i]? = some (.dat d) → vs[i]? = some v → Da K S d v := by
          intro ks
          induction ks with
          | nil => intro vs L o i d v a b; simp at a
          | cons k ks ih =>
            intro vs L o i d v a b
            cases vs with
            | nil => simp at b
            | cons u vs =>
              cases i with
              | zero =>
                simp at a b
                subst a b
                exact o.dat
              | succ i => exact ih vs L o.drop i d v (by simpa using a) (by simpa using b)
        intro i d v a b
        exact g ks vs [] (by simpa using o) i d v a b
      have done : ∀ (ρ : Rho) (σ : L2.St) (L : En2) (H' S' : Hp), fin (pinOf 0 ks) ks' ρ → Pin (pinOf 0 ks, vs) σ → Os K ⟨less H fp, S⟩ (L ++ ents ρ σ) H' S' → Os K ⟨less H fp, S⟩ (L ++ ks'.zip vs) H' S' := fun ρ σ L H' S' a b o' =>
        asm (S0 := S) ks ks' vs 0 ρ σ L H' S' h1 hkd (fun i hi => ⟨Nat.zero_le _, a i hi, b i hi⟩) data o'.oldS o'
      cases r with
      | ret kr =>
        refine ⟨fun ρ σ H' S' z c pi o' => ?_, fun ρ σ H' S' z => z.elim, fun ρ σ H' S' z => z.elim, fun k0 ρ v σ H' S' z c pi o' => ?_, fun _ _ _ _ _ _ _ z => z.elim⟩
        · obtain ⟨rfl, z⟩ := z
          exact q .non H' S' ((done ρ σ [] H' S' z pi o').push (by simp only [Da]))
        · obtain ⟨rfl, z⟩ := z
          exact q v H' S' (done ρ σ [(k0, v)] H' S' z pi o')
      | exc C fs =>
        refine ⟨fun ρ σ H' S' z => z.elim, fun ρ σ H' S' z => z.elim, fun ρ σ H' S' z => z.elim, fun k0 ρ v σ H' S' z => z.elim, fun C' fs' d ρ σ H' S' z c pi x o' => ?_⟩
        obtain ⟨rfl, rfl, z⟩ := z
        exact q d H' S' x (done ρ σ [] H' S' z pi o')
/-- THE RULE for a def -/
theorem Fn.of {P : Program} {w : World} {K : PySem.W.Frag} {mg : Str → Option Value} {base : Heap} {x x' qual : Str} {st : Stmt} {f : Addr} {fd : FuncData} {N ps : List Str} {k : Nat} {rel : Rel} (F : Fun K x qual st f fd) (Sc : FnScope N ps (defScope st)) (hm : mg x' = some (.ref f)) (hb : Binds K fd ps [])
    (hrel : ∀ ks ks' r, rel ks ks' r → ks.length = ps.length ∧ keepD ks ks')
    (body : ∀ (cdv : Value) (A : Around) (outer : List Env) (s : Shared) (H : Hp) (E : XK), Room k (A.deeper (envOfC qual (defScope st) s.heap.objs.size f cdv)) → ∀ (e : En) (vs : List V) (ks ks' : List Kd) (r : Res), rel ks ks' r →
      DSs (cxOf (L2.CX P w) P w K mg base N qual (defScope st) f cdv A outer s H E) e (pinOf 0 ks, vs) (fun cls d _ H => E cls d H) (rho0 N ks) (defBody st) (goal (pinOf 0 ks) ks' r)) :
    Fn P w K mg base x' ps (k + 1) rel :=
  ⟨f, fd, ok_of F Sc hrel body, hm, F.kp, hb⟩
end Ov
set_option Elab.async false
set_option linter.all false
set_option maxRecDepth 100000
set_option maxHeartbeats 1000000
namespace Ov
open PySem PySem.Spec PyProof.Rows L2
section
variable {prog : Program} {w : World} {A : Around} {E : Value → Shared → Prop} {s : Shared}
theorem gather_tup {t : Addr} {us : List Value} {Q : List Value → Shared → Prop} (ht : IsTup s.heap t us.toArray) (hz : us.length ≤ sizeLine)
    (q : Q us { s with heap := (s.heap.push (seqObj "list" #[] 0)).update s.heap.objs.size (Obj.mapSeq (· ++ us.toArray)) }) : wpAny (model prog w) A (collect (.ref t)) Q E s := by
  obtain ⟨ob, hob, hcl, m, hdt⟩ := ht
  unfold collect
  refine wpAny_bind (wpAny_runValue (codeAny_builtin entry_proto_collect' (show wpAny _ _ (do again (.builtin "list.__iadd__" ⟨[← newList [], .ref t], []⟩)) _ _ s from ?_)))
  refine wpAny_bind (wpAny_newList (wpAny_pure ⟨Code.quiet_builtin _ (by decide +kernel), codeAny_builtin entry_list_iadd' (show wpAny _ _ (Builtin.List.listExtendWith (.ref s.heap.objs.size) (.ref t) (.ref s.heap.objs.size)) _ _ { s with heap := s.heap.push (seqObj "list" #[] 0) } from ?_)⟩))
  have hob2 : (s.heap.push (seqObj "list" #[] 0)).get? t = some ob := Heap.get?_push_of_some _ hob
  have new2 : (s.heap.push (seqObj "list" #[] 0)).get? s.heap.objs.size = some (seqObj "list" #[] 0) := Heap.get?_push_size _ rfl
  unfold Builtin.List.listExtendWith
  refine wpAny_bind (wpAny_typeOf (T := "tuple") ⟨ob, hob2, hcl⟩ ?_)
  rw [if_pos (by rw [show (Value.type "tuple" == Value.type "tuple") = true from by rfl]; simp)]
  refine wpAny_bind (listItems_at hob2 hdt (wpAny_bind (listItems_at (xs := #[]) (n := 0) new2 rfl ?_)))
  rw [if_neg (by simp)]
  refine wpAny_bind (listUpdate_at (xs := #[]) (n := 0) new2 rfl (wpAny_pure ?_) (Nat.zero_le _) (by show (#[] ++ us.toArray).size ≤ sizeLine + 1; simp only [Array.size_append, List.size_toArray, List.length_nil]; omega))
  show wpAny (model prog w) A (do
      let o ← load s.heap.objs.size
      match o.data with
      | .seq ys _ => pure ys.toList
      | _ => unsupported "internal:collect") Q E { s with heap := (s.heap.push (seqObj "list" #[] 0)).update s.heap.objs.size (Obj.mapSeq (· ++ us.toArray)) }
  refine wpAny_bind (wpAny_load (get?_update_seq new2 _) (show wpAny _ _ (pure ((#[] : Array Value) ++ us.toArray).toList) Q E _ from ?_))
  rw [show ((#[] : Array Value) ++ us.toArray).toList = us by simp]
  exact wpAny_pure q
/-- sorted(x) where x has been gathered as us, whatever x is -/
theorem sorted_of {x : Value} {us : List Value} {lt : Value → Value → Bool} {Q : Value → Shared → Prop} (O : SrtO.Swo lt) (hz : us.length ≤ sizeLine)
    (hc : ∀ (A' : Around) (R : List Value → Shared → Prop) (E' : Value → Shared → Prop), R us { s with heap := (s.heap.push (seqObj "list" #[] 0)).update s.heap.objs.size (Obj.mapSeq (· ++ us.toArray)) } → wpAny (model prog w) A' (collect x) R E' s)
    (hS : 2 ≤ us.length → ∀ (h₁ : Heap) (a : Addr), h₁.get? a = some (seqObj "list" us.toArray 0) → (∀ b o, s.heap.get? b = some o → b ≠ a ∧ h₁.get? b = some o) → SrtO.SortableO prog w A.in1.in1 { s with heap := h₁ } a us lt)
    (q : ∀ out : List Value, SrtO.Srtd lt out → SrtO.Stb lt out us → Q (.ref (s.heap.objs.size + 1)) { s with heap := sortedAll s.heap us out.toArray }) :
    wpAny (model prog w) A (call (.builtin "sorted") [x]) Q E s := by
  refine Calls.call_function_entry kind_sorted plain_sorted entry_sorted (args_sorted1 _) (show wpAny _ _ (Builtin.«sorted» ⟨[x], []⟩) _ _ s from ?_)
  unfold Builtin.«sorted»
  refine wpAny_bind (m := checkCount "sorted" 1 1 _) (wpAny_pure (wpAny_bind (hc _ _ _ (wpAny_bind (wpAny_newList ?_ hz)))))
  generalize hg : (s.heap.push (seqObj "list" #[] 0)).update s.heap.objs.size (Obj.mapSeq (· ++ us.toArray)) = hp
  have size1 : hp.objs.size = s.heap.objs.size + 1 := by rw [← hg, Heap.size_update, size_push']
  have new1 : (hp.push (seqObj "list" us.toArray 0)).get? (s.heap.objs.size + 1) = some (seqObj "list" us.toArray 0) := by
    rw [← size1]
    exact Heap.get?_push_size _ rfl
  have old1 : ∀ b o, s.heap.get? b = some o → b ≠ s.heap.objs.size + 1 ∧ (hp.push (seqObj "list" us.toArray 0)).get? b = some o := fun b o z => by
    have lt1 : b < s.heap.objs.size := Heap.lt_size z
    refine ⟨Nat.ne_of_lt (Nat.lt_succ_of_lt lt1), Heap.get?_push_of_some _ ?_⟩
    rw [← hg, Heap.get?_update_ne _ _ _ _ (Nat.ne_of_lt lt1)]
    exact Heap.get?_push_of_some _ z
  show wpAny _ _ _ _ _ { s with heap := hp.push (seqObj "list" us.toArray 0) }
  have size2 : ({ s with heap := hp } : Shared).heap.objs.size = s.heap.objs.size + 1 := size1
  rw [size2]
  refine wpAny_bind (wpAny_holding (wpAny_call_entry slot_list_sort ⟨_, new1, rfl⟩ entry_list_sort (SrtO.list_sort_ord O new1 hz (fun z => hS z _ _ new1 old1) fun out h1 h2 => ⟨_, rfl, wpAny_pure ⟨_, rfl, ?_⟩⟩) (args_list_sort _)))
  have qq := q out h1 h2
  unfold sortedAll at qq
  rw [hg] at qq
  exact qq
end
/-- sorted of a tuple of ints -/
def rSortT (K : PySem.W.Frag) : List V → Hp → VK → Prop := fun vs H Q => ∃ (a : Addr) (ns : List Int), vs = [V.ref a] ∧ SqT K H a (ns.map V.int) ∧ ∀ (ms : List Int) (p : Addr), ms.Perm ns → ms.Pairwise (· ≤ ·) → H p = none → Q (.ref p) (upd H p (.lst (ms.map V.int)))
theorem cr_sortT {X : Cx} : CallR X (.builtin "sorted") (rSortT X.K) := by
  intro pins s σ H vs us Q I r h
  obtain ⟨a, ns, rfl, hs, q⟩ := h
  obtain ⟨its, rv, ht, hz⟩ := I.tuple hs
  rw [Vals.ref1 r]
  have hin := rv.ints
  have hz2 : its.length ≤ sizeLine := by rw [← rv.length]; exact hz
  refine sorted_of SrtO.swo_int hz2 (fun A' R E' => gather_tup ht hz2) (fun z h₁ b _ _ => SrtO.ints_sortable hin z) fun out o1 o2 => ?_
  obtain ⟨g1, g2, g3⟩ := SrtO.ints_out hin o1 o2
  obtain ⟨ep, at1⟩ := PyProof.Rows.sortedAll_at s.heap its out.toArray
  have hl2 : ((out.map SrtO.iv).map V.int).length ≤ sizeLine := by
    rw [List.length_map, g2.length_eq, ← List.length_map (f := V.int)]
    exact hz
  refine ⟨.ref _, upd H (s.heap.objs.size + 1) (.lst ((out.map SrtO.iv).map V.int)), I.laid (t' := s.toks) (fun _ _ => PyProof.Rows.sortedAll_old) (Nat.le_succ _) ⟨hl2, out, ep, vals_of_ints g1, at1⟩, rfl, q _ _ g2 g3 (I.hok.fresh (Nat.le_succ _))⟩
/-! ### sorting ints, in plain Lean -/
def ins (x : Int) : List Int → List Int
  | [] => [x]
  | y :: ys => if x ≤ y then x :: y :: ys else y :: ins x ys
def isort : List Int → List Int
  | [] => []
  | x :: xs => ins x (isort xs)
theorem ins_perm (x : Int) : ∀ ys : List Int, (ins x ys).Perm (x :: ys)
  | [] => .refl _
  | y :: ys => by
    unfold ins
    split
    · exact .refl _
    · exact ((ins_perm x ys).cons y).trans (.swap _ _ _)
theorem isort_perm : ∀ xs : List Int, (isort xs).Perm xs
  | [] => .refl _
  | x :: xs => (ins_perm x (isort xs)).trans ((isort_perm xs).cons x)
theorem ins_sorted (x : Int) : ∀ {ys : List Int}, ys.Pairwise (· ≤ ·) → (ins x ys).Pairwise (· ≤ ·)
  | [], _ => List.pairwise_singleton _ _
  | y :: ys, h => by
    unfold ins
    obtain ⟨h1, h2⟩ := List.pairwise_cons.mp h
    split
    · rename_i hxy
      refine List.pairwise_cons.mpr ⟨fun z hz => ?_, h⟩
      rcases List.mem_cons.mp hz with rfl | hz
      · exact hxy
      · exact Int.le_trans hxy (h1 z hz)
    · rename_i hxy
      refine List.pairwise_cons.mpr ⟨fun z hz => ?_, ins_sorted x h2⟩
      rcases List.mem_cons.mp ((ins_perm x ys).mem_iff.mp hz) with rfl | hz
      · omega
      · exact h1 z hz
theorem isort_sorted : ∀ xs : List Int, (isort xs).Pairwise (· ≤ ·)
  | [] => .nil
  | x :: xs => ins_sorted x (isort_sorted xs)
theorem sorted_unique : ∀ {xs ys : List Int}, xs.Perm ys → xs.Pairwise (· ≤ ·) → ys.Pairwise (· ≤ ·) → xs = ys
  | [], ys, p, _, _ => (List.nil_perm.mp p).symm
  | x :: xs, [], p, _, _ => absurd (List.perm_nil.mp p) (by simp)
  | x :: xs, y :: ys, p, h1, h2 => by
    obtain ⟨a1, a2⟩ := List.pairwise_cons.mp h1
    obtain ⟨b1, b2⟩ := List.pairwise_cons.mp h2
    have e : x = y := by
      have m1 : y ∈ x :: xs := p.mem_iff.mpr List.mem_cons_self
      have m2 : x ∈ y :: ys := p.mem_iff.mp List.mem_cons_self
      rcases List.mem_cons.mp m1 with z | m1
      · exact z.symm
      · rcases List.mem_cons.mp m2 with z | m2
        · exact z
        · have := a1 y m1
          have := b1 x m2
          omega
    subst e
    rw [sorted_unique (List.Perm.cons_inv p) a2 b2]
theorem isort_of {xs ms : List Int} (p : ms.Perm xs) (h : ms.Pairwise (· ≤ ·)) : ms = isort xs := sorted_unique (p.trans (isort_perm xs).symm) h (isort_sorted xs)
theorem isort_len (xs : List Int) : (isort xs).length = xs.length := (isort_perm xs).length_eq
section
variable {X : Cx} {e : En} {ρ ρ1 ρ2 : Rho} {ea eb ex : Expr} {pos p : Pos} {k : Kd}
theorem da_ints {K : PySem.W.Frag} {S : Hp} {ns : List Int} {xs : List V} (h : DaL K S (ns.map .int) xs) : xs = ns.map V.int := DaL.ints h
theorem dx_sortT {ns : List Int} (ha : DX X e ρ ea ρ1 (.dat (.tuple (ns.map .int)))) (hm : X.mg "sorted" = none) (hg : Gl X "sorted" := by rfl) (he : starEach [ea] X.env = (false, eval ea X.env) :: starEach [] X.env := by rfl) : DX X e ρ (.Call (.Name "sorted" p) [ea] [] pos) ρ1 (.ml ((isort ns).map .int)) :=
  dx_B (ds := [.tuple (ns.map .int)]) cr_sortT (fun e L H S vs Q o h q => by
    simp only [DaL] at h
    obtain ⟨v, _, rfl, h, rfl⟩ := h
    obtain ⟨a, xs, rfl, e1, hd⟩ := mem_dat.mp h
    rw [DaL.ints hd] at e1
    refine ⟨a, ns, rfl, same_t o.same e1, fun ms p pm sr hp => ?_⟩
    rw [isort_of pm sr]
    refine q _ _ S (o.newO hp (fun xs z => by cases z) ?_)
    simp only [Ho]
    exact ⟨p, _, rfl, rfl, upd_same, DaL.of_ints _⟩) hm (by decide +kernel) (da_cons ha da_nil he) hg (by decide) (by decide) he (by rfl)
theorem dx_sortL {ns : List Int} (ha : DX X e ρ ea ρ1 (.dat (.list (ns.map .int)))) (hm : X.mg "sorted" = none) (hg : Gl X "sorted" := by rfl) (he : starEach [ea] X.env = (false, eval ea X.env) :: starEach [] X.env := by rfl) : DX X e ρ (.Call (.Name "sorted" p) [ea] [] pos) ρ1 (.ml ((isort ns).map .int)) :=
  dx_B (ds := [.list (ns.map .int)]) cr_sortedI (fun e L H S vs Q o h q => by
    simp only [DaL] at h
    obtain ⟨v, _, rfl, h, rfl⟩ := h
    obtain ⟨a, xs, rfl, e1, hd⟩ := mem_da.mp h
    rw [DaL.ints hd] at e1
    refine ⟨a, ns, rfl, SqL.of (o.same _ _ e1), fun ms p pm sr hp => ?_⟩
    rw [isort_of pm sr]
    refine q _ _ S (o.newO hp (fun xs z => by cases z) ?_)
    simp only [Ho]
    exact ⟨p, _, rfl, rfl, upd_same, DaL.of_ints _⟩) hm (by decide +kernel) (da_cons ha da_nil he) hg (by decide) (by decide) he (by rfl)
/-- x.index(y), x a list of ints -/
theorem dx_index {ns : List Int} {n : Int} {j : Nat} {apos : Pos} (ha : DX X e ρ ea ρ1 (.dat (.list (ns.map .int)))) (hb : DX X e ρ1 eb ρ2 (.dat (.int n))) (h : ns.idxOf? n = some j) (hbase : attributeBase ea "index" X.env (eval ea X.env) = eval ea X.env := by rfl)
    (hfew : ((backTo pos (starEach [eb] X.env)).all (fun x => !x.1) && (backToKw pos (keywordEach [] X.env)).all (fun x => x.1.isSome) && decide ([eb].length + ([] : List Keyword).length + (if ([] : List Keyword).isEmpty then 0 else 1) < 30)) = true := by rfl)
    (hline : (apos.endLine == pos.line) = true := by rfl) (hs : starEach [eb] X.env = (false, eval eb X.env) :: starEach [] X.env := by rfl) (hplain : (backTo pos (starEach [] X.env)).any (·.1) = false := by rfl) :
    DX X e ρ (.Call (.Attribute ea "index" apos) [eb] [] pos) ρ2 (.dat (.int (j : Nat))) :=
  PE.mono (pe_bm PySem.F.plainAttrs_list PySem.F.slot_list_index PySem.F.type_list_index mt_index ha (da_cons hb da_nil hs) hbase hfew hline hs hplain) fun σ H Q ⟨S, stk, c, o, q⟩ => ⟨S, stk, c, o, fun v H1 S1 c1 o1 => by
    obtain ⟨a, xs, rfl, e1, hd⟩ := mem_da.mp o1.dat
    refine ⟨.inl ⟨rfl, xs, SqL.of (o1.same _ _ e1)⟩, S1, (.dat (.list (ns.map .int)), .ref a) :: stk, c1, o1, fun vs H2 S2 c2 ok o2 => ?_⟩
    obtain ⟨e2, e3⟩ := pushed_pus (ds := [.int n]) ok
    have e2 : pushed [Ar.pu (.dat (.int n))] vs = ([Kd.dat (.int n)] : List Kd).zip vs := e2
    rw [e2] at o2
    have hv := Os.dats (ds := [.int n]) e3 o2
    simp only [DaL, Da] at hv
    obtain ⟨v, _, rfl, rfl, rfl⟩ := hv
    obtain ⟨b, ys, z, e4, hd2⟩ := mem_da.mp o2.drop.dat
    cases z
    rw [DaL.ints hd2] at e4
    obtain ⟨hj, he, hn⟩ := List.findIdx?_eq_some_iff_getElem.mp (show ns.findIdx? (· == n) = some j from h)
    refine ⟨a, ns.map V.int, .int n, j, .int n, rfl, rfl, SqL.of (o2.same _ _ e4), rfl, by simp [flatV], ?_, by simp [eqV], fun m z' hm hz' => ?_, q _ H2 S2 c2 (o2.drop.drop.push (da_int _ _))⟩
    · rw [List.getElem?_map, List.getElem?_eq_getElem hj]
      simp at he
      rw [he]
      rfl
    · rw [List.getElem?_map, List.getElem?_eq_getElem (by omega)] at hz'
      cases hz'
      have := hn m hm
      simp [eqV] at this ⊢
      exact this⟩
end
end Ov
set_option Elab.async false
set_option linter.all false
set_option maxRecDepth 100000
set_option maxHeartbeats 1000000
/-! zip of any lists and tuples of one length, strict or not -/
namespace Ov.Z
open PySem PySem.Spec PyProof.Rows L2
structure ZE where
  it : Addr
  l : Addr
  c : Bool
  xs : Array Value
def ZE.At (e : ZE) (h : Heap) (k : Nat) : Prop := if e.c then h.IsTupleIter e.it e.l k else h.IsListIter e.it e.l k
def ZE.Sq (e : ZE) (h : Heap) : Prop := if e.c then h.IsTuple e.l e.xs else h.IsList e.l e.xs
/-- one draw of zip -/
def zd (st : Bool) (v : Value) : Sem (Option Value) := bif st then Builtin.SmallTypes.nextOrEnd v else Builtin.SmallTypes.nextOf v >>= fun x => pure (some x)
theorem zd_of {M : Model} {A : Around} {E : Value → Shared → Prop} {s : Shared} {st : Bool} {v : Value} {Q : Option Value → Shared → Prop} {t : Sem (Option Value)} (h : wpAny M A (zd st v) Q E s) (e : t = zd st v) : wpAny M A t Q E s := e ▸ h
section
variable {prog : Program} {w : World} {A : Around} {E : Value → Shared → Prop} {s : Shared} {e : ZE} {k : Nat} {x : Value}
theorem ZE.At.move {h h' : Heap} {y : Addr} (a : e.At h k) (sb : Heap.SameBut y h h') (n : e.it ≠ y) : e.At h' k := by
  unfold ZE.At at a ⊢
  split
  · rename_i hc
    rw [if_pos hc] at a
    exact a.extBut sb.extBut n
  · rename_i hc
    rw [if_neg hc] at a
    exact a.extBut sb.extBut n
theorem ZE.Sq.move {h h' : Heap} {y : Addr} (a : e.Sq h) (sb : Heap.SameBut y h h') (n : e.l ≠ y) : e.Sq h' := by
  unfold ZE.Sq at a ⊢
  split
  · rename_i hc
    rw [if_pos hc] at a
    exact a.extBut sb.extBut n
  · rename_i hc
    rw [if_neg hc] at a
    exact a.extBut sb.extBut n
theorem nextOf_item {Q : Value → Shared → Prop} (a : e.At s.heap k) (q : e.Sq s.heap) (hx : e.xs[k]? = some x) (hQ : ∀ h', e.At h' (k + 1) → Heap.SameBut e.it s.heap h' → Q x { s with heap := h' }) : wpAny (model prog w) A (Builtin.SmallTypes.nextOf (.ref e.it)) Q E s := by
  unfold ZE.At at a hQ
  unfold ZE.Sq at q
  cases hc : e.c with
  | true =>
    rw [hc] at a q hQ
    exact RZ.nextOf_tuple_item a q hx hQ
  | false =>
    rw [hc] at a q hQ
    exact wpAny_nextOf_list_item a q hx hQ
theorem nextOf_end {Q : Value → Shared → Prop} (hh : A.handled = none) (a : e.At s.heap k) (q : e.Sq s.heap) (hx : e.xs[k]? = none) (hE : ∀ h' x, Heap.ExtBut e.it s.heap h' → (∃ o, h'.get? x = some o ∧ o.cls = .type "StopIteration") → E (.ref x) { s with heap := h' }) : wpAny (model prog w) A (Builtin.SmallTypes.nextOf (.ref e.it)) Q E s := by
  unfold ZE.At at a
  unfold ZE.Sq at q
  cases hc : e.c with
  | true =>
    rw [hc] at a q
    exact RZ.nextOf_tuple_end hh a q hx hE
  | false =>
    rw [hc] at a q
    exact wpAny_nextOf_list_end hh a q hx hE
theorem orEnd_item {Q : Option Value → Shared → Prop} (a : e.At s.heap k) (q : e.Sq s.heap) (hx : e.xs[k]? = some x) (hQ : ∀ h', e.At h' (k + 1) → Heap.SameBut e.it s.heap h' → Q (some x) { s with heap := h' }) : wpAny (model prog w) A (Builtin.SmallTypes.nextOrEnd (.ref e.it)) Q E s := by
  unfold Builtin.SmallTypes.nextOrEnd
  exact wpAny_bind (wpAny_attempt (nextOf_item a q hx fun h' b sb => wpAny_pure (hQ h' b sb)))
theorem orEnd_end {Q : Option Value → Shared → Prop} (hh : A.handled = none) (a : e.At s.heap k) (q : e.Sq s.heap) (hx : e.xs[k]? = none) (hQ : ∀ h', Heap.ExtBut e.it s.heap h' → Q none { s with heap := h' }) : wpAny (model prog w) A (Builtin.SmallTypes.nextOrEnd (.ref e.it)) Q E s := by
  unfold Builtin.SmallTypes.nextOrEnd
  refine wpAny_bind (wpAny_attempt (nextOf_end hh a q hx fun h' y eb ⟨o, ho, hc⟩ => ?_))
  exact wpAny_bind (wpAny_isInstance (T := "StopIteration") (b := true) ⟨o, ho, hc⟩ isSubtype_stop (wpAny_pure (hQ h' eb)))
theorem zd_item {st : Bool} {Q : Option Value → Shared → Prop} (a : e.At s.heap k) (q : e.Sq s.heap) (hx : e.xs[k]? = some x) (hQ : ∀ h', e.At h' (k + 1) → Heap.SameBut e.it s.heap h' → Q (some x) { s with heap := h' }) : wpAny (model prog w) A (zd st (.ref e.it)) Q E s := by
  unfold zd
  cases st with
  | true => exact orEnd_item a q hx hQ
  | false => exact wpAny_bind (nextOf_item a q hx fun h' b sb => wpAny_pure (hQ h' b sb))
end
/-- the record -/
def Rec (h : Heap) (z TI TO : Addr) (st : Bool) (f0 f1 : Value) : Prop := h.get? z = some { cls := .type "zip", data := .fields #[f0, f1, .bool st, .ref TI, .ref TO] }
def Tp (h : Heap) (T : Addr) (vs : List Value) : Prop := h.get? T = some { cls := .type "tuple", data := .seq vs.toArray }
structure Sep (z TI TO : Addr) (L : List ZE) : Prop where
  zTI : TI ≠ z
  zTO : TO ≠ z
  TT : TI ≠ TO
  its : (L.map (·.it)).Nodup
  iz : ∀ e ∈ L, e.it ≠ z ∧ e.it ≠ TI ∧ e.it ≠ TO
  lz : ∀ e ∈ L, e.l ≠ z ∧ e.l ≠ TO ∧ ∀ e' ∈ L, e.l ≠ e'.it
section
variable {prog : Program} {w : World} {A : Around} {E : Value → Shared → Prop} {s : Shared} {z TI TO : Addr} {st : Bool} {L : List ZE} {k : Nat}
/-- amid the draws: the first j have been drawn -/
structure Mid (s0 h : Heap) (z TI TO : Addr) (st : Bool) (f0 f1 : Value) (L : List ZE) (k j : Nat) (old xs : List Value) : Prop where
  rec' : Rec h z TI TO st f0 f1
  to : Tp h TO (xs.take j ++ old.drop j)
  its : ∀ (i : Nat) (e : ZE), L[i]? = some e → e.At h (if i < j then k + 1 else k)
  sqs : ∀ e ∈ L, e.Sq h
  size : h.objs.size = s0.objs.size
  kept : ∀ c o, c ≠ z → c ≠ TO → (∀ e ∈ L, c ≠ e.it) → s0.get? c = some o → h.get? c = some o
theorem zix_drop {L : List ZE} {j : Nat} {e : ZE} (h : L[j]? = some e) : ((L.map fun e => Value.ref e.it).zipIdx).drop j = (Value.ref e.it, j) :: ((L.map fun e => Value.ref e.it).zipIdx).drop (j + 1) := by
  have hj : j < ((L.map fun e => Value.ref e.it).zipIdx).length := by
    rw [List.length_zipIdx, List.length_map]
    exact (List.getElem?_eq_some_iff.mp h).1
  rw [List.drop_eq_getElem_cons hj]
  congr 1
  rw [List.getElem_zipIdx, List.getElem_map]
  obtain ⟨h1, h2⟩ := List.getElem?_eq_some_iff.mp h
  rw [h2]
  simp
theorem mem_at {L : List ZE} {j : Nat} {e : ZE} (h : L[j]? = some e) : e ∈ L := List.mem_of_getElem? h
theorem it_inj {L : List ZE} (nd : (L.map (·.it)).Nodup) {i j : Nat} {e e' : ZE} (h : L[i]? = some e) (h' : L[j]? = some e') (hij : i ≠ j) : e.it ≠ e'.it := fun z => by
  have h1 : (L.map (·.it))[i]? = some e.it := by rw [List.getElem?_map, h]; rfl
  have h2 : (L.map (·.it))[j]? = some e.it := by rw [List.getElem?_map, h', z]; rfl
  obtain ⟨a1, a2⟩ := List.getElem?_eq_some_iff.mp h1
  obtain ⟨b1, b2⟩ := List.getElem?_eq_some_iff.mp h2
  exact hij ((List.getElem_inj nd).mp (a2.trans b2.symm))
theorem take_set {xs old : List Value} {j : Nat} {x : Value} (hl : old.length = xs.length) (hx : xs[j]? = some x) : ((xs.take j ++ old.drop j).toArray).setIfInBounds j x = (xs.take (j + 1) ++ old.drop (j + 1)).toArray := by
  obtain ⟨hj, hj2⟩ := List.getElem?_eq_some_iff.mp hx
  rw [List.setIfInBounds_toArray]
  congr 1
  rw [List.set_append]
  have h1 : (xs.take j).length = j := by rw [List.length_take]; omega
  rw [if_neg (by omega), h1, Nat.sub_self]
  have h2 : old.drop j = old[j]'(by omega) :: old.drop (j + 1) := List.drop_eq_getElem_cons (by omega)
  rw [h2, List.set_cons_zero, List.take_add_one, hx]
  simp
/-- the j-th one is drawn, by an iterator's step -/
theorem Mid.step {s0 h h1 h2 : Heap} {f0 f1 : Value} {j : Nat} {old xs : List Value} {e : ZE} {x : Value} (D : Sep z TI TO L) (m : Mid s0 h z TI TO st f0 f1 L k j old xs) (hl : old.length = xs.length) (he : L[j]? = some e) (hx : xs[j]? = some x) (sb1 : Heap.SameBut e.it h h1) (a1 : e.At h1 (k + 1))
    (to2 : h2.get? TO = some { cls := .type "tuple", data := .seq ((xs.take j ++ old.drop j).toArray.setIfInBounds j x) }) (sb2 : Heap.SameBut TO h1 h2) : Mid s0 h2 z TI TO st f0 f1 L k (j + 1) old xs := by
  have me := mem_at he
  obtain ⟨i1, i2, i3⟩ := D.iz e me
  refine ⟨(sb2.2 z D.zTO.symm).trans ((sb1.2 z i1.symm).trans m.rec'), ?_, fun i e' hi => ?_, fun e' m' => ?_, ?_, fun c o c1 c2 c3 ho => ?_⟩
  · unfold Tp
    rw [to2, take_set hl hx]
  · by_cases hij : i = j
    · subst hij
      rw [he] at hi
      cases hi
      rw [if_pos (Nat.lt_succ_self _)]
      exact a1.move sb2 i3
    · have h3 := m.its i e' hi
      have h4 : (if i < j + 1 then k + 1 else k) = (if i < j then k + 1 else k) := by
        by_cases hlt : i < j
        · rw [if_pos hlt, if_pos (by omega)]
        · rw [if_neg hlt, if_neg (by omega)]
      rw [h4]
      exact (h3.move sb1 (it_inj D.its hi he hij)).move sb2 (D.iz e' (mem_at hi)).2.2
  · obtain ⟨l1, l2, l3⟩ := D.lz e' m'
    exact ((m.sqs e' m').move sb1 (l3 e me)).move sb2 l2
  · rw [sb2.1, sb1.1, m.size]
  · exact (sb2.2 c c2).trans ((sb1.2 c (c3 e me)).trans (m.kept c o c1 c2 c3 ho))
/-- what a draw leaves: T the new tuple -/
structure Out (s0 h : Heap) (z TI TO : Addr) (st : Bool) (f0 f1 : Value) (L : List ZE) (k : Nat) (T : Addr) (xs : List Value) : Prop where
  rec' : Rec h z TI TO st f0 f1
  to : ∃ vs : List Value, vs.length = L.length ∧ Tp h TO vs
  its : ∀ e ∈ L, e.At h (k + 1)
  new : Tp h T xs
  size : h.objs.size = s0.objs.size + 1
  kept : ∀ c o, c ≠ z → c ≠ TO → (∀ e ∈ L, c ≠ e.it) → s0.get? c = some o → h.get? c = some o
theorem ZE.At.keep {e : ZE} {h h' : Heap} (a : e.At h k) (g : ∀ o, h.get? e.it = some o → h'.get? e.it = some o) : e.At h' k := by
  unfold ZE.At at a ⊢
  split
  · rename_i hc
    rw [if_pos hc] at a
    exact a.at g
  · rename_i hc
    rw [if_neg hc] at a
    exact a.at g
theorem ZE.At.lt {e : ZE} {h : Heap} (a : e.At h k) : e.it < h.objs.size := by
  unfold ZE.At at a
  split at a
  · obtain ⟨_, z, _⟩ := a
    exact Heap.lt_size z
  · obtain ⟨_, z, _⟩ := a
    exact Heap.lt_size z
theorem next_free (hne : L ≠ []) {f1 : Value} {Q : Value → Shared → Prop} (D : Sep z TI TO L) (hz : Rec s.heap z TI TO st .none f1) (hTI : Tp s.heap TI (L.map fun e => .ref e.it)) {old : List Value} (ho : old.length = L.length) (hTO : Tp s.heap TO old) (ha : ∀ e ∈ L, e.At s.heap k) (hs : ∀ e ∈ L, e.Sq s.heap) {xs : List Value} (hx : xs.length = L.length)
    (hxs : ∀ (j : Nat) (e : ZE) (x : Value), L[j]? = some e → xs[j]? = some x → e.xs[k]? = some x) (hn : L.length ≤ 1000) (hQ : ∀ h', Out s.heap h' z TI TO st (rawInt s.heap.objs.size) (.bool false) L k s.heap.objs.size xs → Q (.ref s.heap.objs.size) { s with heap := h' }) :
    wpAny (model prog w) A (Builtin.«zip.__next__» ⟨[.ref z], []⟩) (fun fin s' => ∃ v, fin = .done (.ret v) ∧ Q v s') E s := by
  show wpAny _ _ (field (.ref z) 2 >>= _) _ _ _
  refine wpAny_bind (wpAny_field hz rfl (x := .bool st) rfl ?_)
  show wpAny _ _ (field (.ref z) 3 >>= _) _ _ _
  refine wpAny_bind (wpAny_field hz rfl (x := .ref TI) rfl (wpAny_bind (wpAny_seqItems hTI rfl ?_)))
  have he : (L.map fun e => Value.ref e.it).toArray.isEmpty = false := by cases L with | nil => exact absurd rfl hne | cons e L => rfl
  simp only [he, Bool.false_eq_true, if_false]
  refine wpAny_bind ?_
  unfold Builtin.SmallTypes.ownedTupleIsFree
  refine wpAny_bind (wpAny_field hz rfl (x := .none) rfl (wpAny_pure ?_))
  simp only [if_true]
  refine wpAny_bind (wpAny_rule (wpAny_bind (wpAny_field hz rfl (x := .ref TO) rfl ?_)))
  refine wpAny_bind (wpAny_setField_rec hz (by simp) fun h₁ hz₁ hs₁ => ?_)
  have m0 : Mid s.heap h₁ z TI TO st .ellipsis f1 L k 0 old xs := by
    refine ⟨hz₁, (hs₁.2 TO D.zTO).trans hTO, fun i e hi => ?_, fun e m => (hs e m).move hs₁ (D.lz e m).1, hs₁.1, fun c o c1 _ _ x => (hs₁.2 c c1).trans x⟩
    rw [if_neg (Nat.not_lt_zero _)]
    exact (ha e (mem_at hi)).move hs₁ (D.iz e (mem_at hi)).1
  refine wpAny_bind (wpAny_forIn_list _ (fun rest b s' => b = (none, PUnit.unit) ∧ ∃ j h, rest = ((L.map fun e => Value.ref e.it).zipIdx).drop j ∧ j ≤ L.length ∧ s' = { s with heap := h } ∧ Mid s.heap h z TI TO st .ellipsis f1 L k j old xs) _ ?_ ?_ _ _ ⟨rfl, 0, h₁, rfl, Nat.zero_le _, rfl, m0⟩)
  · rintro x rest b s' ⟨rfl, j, h, hr, hj, rfl, m⟩
    have hj2 : j < L.length := by
      refine Nat.lt_of_le_of_ne hj fun z => ?_
      rw [List.drop_eq_nil_of_le (by rw [List.length_zipIdx, List.length_map]; omega)] at hr
      cases hr
    have hej : L[j]? = some L[j] := List.getElem?_eq_getElem hj2
    have hxj : xs[j]? = some (xs[j]'(by omega)) := List.getElem?_eq_getElem (by omega)
    rw [zix_drop hej] at hr
    cases hr
    have mej := mem_at hej
    obtain ⟨i1, i2, i3⟩ := D.iz _ mej
    have aj := m.its j _ hej
    rw [if_neg (Nat.lt_irrefl _)] at aj
    refine wpAny_bind (wpAny_onRaise (zd_of (s := { s with heap := h }) (st := st) (v := .ref L[j].it) ?_ (by cases st <;> rfl)))
    refine zd_item aj (m.sqs _ mej) (hxs j _ _ hej hxj) fun h2 a2 sb2 => ?_
    have to2 : h2.get? TO = some { cls := .type "tuple", data := .seq (xs.take j ++ old.drop j).toArray } := (sb2.2 TO i3.symm).trans m.to
    refine wpAny_bind (wpAny_seqItems to2 rfl ?_)
    have zsz : (xs.take j ++ old.drop j).length ≤ 1000 := by
      rw [List.length_append, List.length_take, List.length_drop]
      omega
    refine wpAny_bind (wpAny_updateSeq to2 rfl (hz := by rw [List.size_toArray, sizeLine_eq]; omega) (_hz' := by rw [Array.size_setIfInBounds, List.size_toArray, sizeLine_eq]; omega) (wpAny_bind (wpAny_letGo (wpAny_pure ⟨rfl, j + 1, _, rfl, hj2, rfl, m.step D (by omega) hej hxj sb2 a2 ?_ (Heap.SameBut.update ..)⟩))))
    rw [Heap.get?_update_self _ to2 rfl]
    simp [Obj.mapSeq]
  · rintro b s' ⟨rfl, j, h, hr, hj, rfl, m⟩
    have hjL : j = L.length := by
      have := congrArg List.length hr
      rw [List.length_drop, List.length_zipIdx, List.length_map, List.length_nil] at this
      omega
    subst hjL
    have to3 : Tp h TO xs := by
      have := m.to
      rw [List.take_of_length_le (by omega), List.drop_of_length_le (by omega), List.append_nil] at this
      exact this
    refine wpAny_bind (wpAny_seqItems to3 rfl ?_)
    refine wpAny_bind (wpAny_newTuple ?_ (by rw [List.toList_toArray, hx, sizeLine_eq]; omega))
    have zlt : z < h.objs.size := Heap.lt_size m.rec'
    have tolt : TO < h.objs.size := Heap.lt_size to3
    refine wpAny_bind ?_
    unfold Builtin.SmallTypes.ownedTupleHandOut
    rw [List.toList_toArray]
    have z6 : Rec (h.push { cls := .type "tuple", data := .seq xs.toArray }) z TI TO st .ellipsis f1 := Heap.get?_push_of_some _ m.rec'
    refine wpAny_bind (wpAny_setField_rec z6 (by simp) fun h7 z7 s7 => ?_)
    refine wpAny_setField_rec z7 (by simp) fun h8 z8 s8 => wpAny_pure ⟨_, rfl, ?_⟩
    have up : ∀ c o, c ≠ z → h.get? c = some o → h8.get? c = some o := fun c o c1 x => (s8.2 c c1).trans ((s7.2 c c1).trans (Heap.get?_push_of_some _ x))
    have sz : h.objs.size = s.heap.objs.size := m.size
    show Q (.ref h.objs.size) _
    rw [sz]
    refine hQ h8 ⟨?_, ⟨xs, hx, up TO _ D.zTO to3⟩, fun e me => ?_, ?_, ?_, fun c o c1 c2 c3 x => up c o c1 (m.kept c o c1 c2 c3 x)⟩
    · unfold Rec
      rw [z8, sz]
      rfl
    · obtain ⟨i, hi⟩ := List.mem_iff_getElem?.mp me
      have a := m.its i e hi
      rw [if_pos (List.getElem?_eq_some_iff.mp hi).1] at a
      exact a.keep fun o x => up _ o (D.iz e me).1 x
    · have nz : h.objs.size ≠ z := Nat.ne_of_gt zlt
      rw [← sz]
      exact (s8.2 _ nz).trans ((s7.2 _ nz).trans (Heap.get?_push_size _ rfl))
    · rw [s8.1, s7.1, Heap.size_push, sz]
end
end Ov.Z
set_option Elab.async false
set_option linter.all false
set_option maxRecDepth 100000
set_option maxHeartbeats 1000000
namespace Ov.Z
open PySem PySem.Spec PyProof.Rows L2
/-- what is zipped -/
structure SE where
  l : Addr
  c : Bool
  xs : Array Value
def SE.Sq (e : SE) (h : Heap) : Prop := if e.c then h.IsTuple e.l e.xs else h.IsList e.l e.xs
def mkL (a : Addr) (es : List SE) : List ZE := es.mapIdx fun i e => ⟨a + i, e.l, e.c, e.xs⟩
theorem mkL_get {a : Addr} {es : List SE} {i : Nat} : (mkL a es)[i]? = es[i]?.map fun e => ⟨a + i, e.l, e.c, e.xs⟩ := by simp [mkL]
theorem mkL_len {a : Addr} {es : List SE} : (mkL a es).length = es.length := by simp [mkL]
theorem SE.Sq.keep {e : SE} {h h' : Heap} (q : e.Sq h) (g : ∀ c o, h.get? c = some o → h'.get? c = some o) : e.Sq h' := by
  unfold SE.Sq at q ⊢
  split
  · rename_i hc
    rw [if_pos hc] at q
    exact q.at fun o x => g _ o x
  · rename_i hc
    rw [if_neg hc] at q
    exact q.at fun o x => g _ o x
section
variable {prog : Program} {w : World} {A : Around} {E : Value → Shared → Prop} {s : Shared}
theorem iter_se {e : SE} {Q : Value → Shared → Prop} (q : e.Sq s.heap) (hQ : ∀ h', (⟨s.heap.objs.size, e.l, e.c, e.xs⟩ : ZE).At h' 0 → h'.objs.size = s.heap.objs.size + 1 → (∀ c o, s.heap.get? c = some o → h'.get? c = some o) → Q (.ref s.heap.objs.size) { s with heap := h' }) : wpAny (model prog w) A (pyIter (.ref e.l)) Q E s := by
  unfold SE.Sq at q
  unfold ZE.At at hQ
  cases hc : e.c with
  | true =>
    rw [hc] at q hQ
    exact wpAny_pyIter_tuple q (hQ _ ⟨_, Heap.get?_push_size _ rfl, rfl, rfl⟩ (Heap.size_push ..) fun c o x => Heap.get?_push_of_some _ x)
  | false =>
    rw [hc] at q hQ
    exact wpAny_pyIter_list q (hQ _ ⟨_, Heap.get?_push_size _ rfl, rfl, rfl⟩ (Heap.size_push ..) fun c o x => Heap.get?_push_of_some _ x)
theorem iters_ok {es : List SE} {Q : List Value → Shared → Prop} (q : ∀ e ∈ es, e.Sq s.heap) (hQ : ∀ h', (∀ e ∈ mkL s.heap.objs.size es, e.At h' 0) → h'.objs.size = s.heap.objs.size + es.length → (∀ c o, s.heap.get? c = some o → h'.get? c = some o) → Q ((mkL s.heap.objs.size es).map fun e => .ref e.it) { s with heap := h' }) :
    wpAny (model prog w) A (Builtin.SmallTypes.iterAll (es.map fun e => .ref e.l)) Q E s := by
  unfold Builtin.SmallTypes.iterAll
  refine wpAny_bind (wpAny_forIn_list _ (fun rest (b : Array Value) s' => ∃ j h, rest = (es.map fun e => Value.ref e.l).drop j ∧ j ≤ es.length ∧ s' = { s with heap := h } ∧ b.toList = ((mkL s.heap.objs.size es).map fun e => Value.ref e.it).take j ∧ (∀ i e, i < j → (mkL s.heap.objs.size es)[i]? = some e → e.At h 0) ∧ h.objs.size = s.heap.objs.size + j ∧ ∀ c o, s.heap.get? c = some o → h.get? c = some o) _ ?_ ?_ _ _ ⟨0, s.heap, rfl, Nat.zero_le _, rfl, rfl, fun i e z => absurd z (Nat.not_lt_zero _), rfl, fun c o x => x⟩)
  · rintro x rest b s' ⟨j, h, hr, hj, rfl, hb, hi, hs, hk⟩
    have hj2 : j < es.length := by
      refine Nat.lt_of_le_of_ne hj fun z => ?_
      rw [List.drop_eq_nil_of_le (by rw [List.length_map]; omega)] at hr
      cases hr
    have ej : es[j]? = some es[j] := List.getElem?_eq_getElem hj2
    rw [List.drop_eq_getElem_cons (by rw [List.length_map]; exact hj2), List.getElem_map] at hr
    cases hr
    refine wpAny_bind (wpAny_holding (iter_se (s := { s with heap := h }) ((q _ (List.mem_of_getElem? ej)).keep hk) fun h' a' s' k' => wpAny_pure ⟨j + 1, h', rfl, hj2, rfl, ?_, fun i e hlt he => ?_, ?_, fun c o x => k' c o (hk c o x)⟩))
    · rw [Array.toList_push, hb, List.take_add_one, List.getElem?_map, mkL_get, ej]
      show _ = _ ++ [Value.ref (s.heap.objs.size + j)]
      rw [← hs]
    · by_cases hij : i = j
      · subst hij
        rw [mkL_get, ej] at he
        cases he
        have a2 : (⟨h.objs.size, es[i].l, es[i].c, es[i].xs⟩ : ZE).At h' 0 := a'
        rw [hs] at a2
        exact a2
      · exact (hi i e (by omega) he).keep fun o x => k' _ o x
    · have s2 : h'.objs.size = h.objs.size + 1 := s'
      rw [s2, hs]
      omega
  · rintro b s' ⟨j, h, hr, hj, rfl, hb, hi, hs, hk⟩
    have hjl : j = es.length := by
      have := congrArg List.length hr
      rw [List.length_drop, List.length_map, List.length_nil] at this
      omega
    subst hjl
    refine wpAny_pure ?_
    rw [hb, List.take_of_length_le (by rw [List.length_map, mkL_len]; exact Nat.le_refl _)]
    refine hQ h (fun e me => ?_) hs hk
    obtain ⟨i, hi'⟩ := List.mem_iff_getElem?.mp me
    have := (List.getElem?_eq_some_iff.mp hi').1
    rw [mkL_len] at this
    exact hi i e this hi'
/-- the keywords of zip -/
def kwz (st : Bool) : List (Str × Value) := if st then [("strict", .bool true)] else []
theorem tyCheck_zip (vs : List Value) (kw : List (Str × Value)) : checkTypeCall "zip" ⟨vs, kw⟩ = pure () := by kernel_rfl
/-- two or three are zipped -/
def few (es : List SE) : Prop := es.length = 2 ∨ es.length = 3
theorem newCheck_zip {es : List SE} (h : few es) (st : Bool) : checkBuiltinCall "zip.__new__" ⟨.type "zip" :: es.map (fun e => .ref e.l), kwz st⟩ = pure () := by
  match es, h with
  | [a, b], _ => cases st <;> kernel_rfl
  | [a, b, c], _ => cases st <;> kernel_rfl
  | [], h => rcases h with h | h <;> cases h
  | [_], h => rcases h with h | h <;> cases h
  | _ :: _ :: _ :: _ :: _, h => rcases h with h | h <;> simp at h
theorem initArgs_zip {es : List SE} (h : few es) (st : Bool) (x : Value) : argsOk "object.__init__" ⟨x :: es.map (fun e => .ref e.l), kwz st⟩ := by
  unfold argsOk
  rw [signature?_of (id := "object.__init__") (n := ['_', '_', 't', 'i', 'n', 'i', '_', '_']) (o := ['t', 'c', 'e', 'j', 'b', 'o']) (by kernel_rfl) F.owner_object]
  match es, h with
  | [a, b], _ => cases st <;> kernel_rfl
  | [a, b, c], _ => cases st <;> kernel_rfl
  | [], h => rcases h with h | h <;> cases h
  | [_], h => rcases h with h | h <;> cases h
  | _ :: _ :: _ :: _ :: _, h => rcases h with h | h <;> simp at h
theorem few.le {es : List SE} (h : few es) : es.length ≤ 1000 := by rcases h with h | h <;> rw [h] <;> decide
theorem few.ne {es : List SE} {a : Addr} (h : few es) : mkL a es ≠ [] := fun z => by
  have := congrArg List.length z
  rw [mkL_len] at this
  rcases h with h | h <;> rw [h] at this <;> cases this
theorem mem_mkL {a : Addr} {es : List SE} {e : ZE} (h : e ∈ mkL a es) : ∃ (i : Nat) (x : SE), i < es.length ∧ x ∈ es ∧ e.it = a + i ∧ e.l = x.l := by
  obtain ⟨i, hi⟩ := List.mem_iff_getElem?.mp h
  have hlt := (List.getElem?_eq_some_iff.mp hi).1
  rw [mkL_len] at hlt
  rw [mkL_get, List.getElem?_eq_getElem hlt] at hi
  cases hi
  exact ⟨i, es[i], hlt, List.getElem_mem hlt, rfl, rfl⟩
theorem ne_of_nat {a b : Nat} (h : a ≠ b) : @Ne Addr a b := h
theorem ne_lt1 {a b : Nat} (i : Nat) (h : a < b) : @Ne Addr a (b + i) := ne_of_nat (by omega)
theorem ne_lt2 {a b : Nat} (i j : Nat) (h : a < b) : @Ne Addr a (b + i + j) := ne_of_nat (by omega)
theorem sep_mk {a : Addr} {es : List SE} (hl : ∀ e ∈ es, e.l < a) : Sep (a + es.length + 2) (a + es.length) (a + es.length + 1) (mkL a es) where
  zTI := ne_of_nat (by omega)
  zTO := ne_of_nat (by omega)
  TT := ne_of_nat (by omega)
  its := by
    refine List.pairwise_iff_getElem.mpr fun i j hi hj hij z => ?_
    simp [mkL] at z
    have z2 : (a : Nat) + i = a + j := congrArg (fun x : Nat => a + x) z
    omega
  iz := fun e me => by
    obtain ⟨i, x, hi, _, h1, _⟩ := mem_mkL me
    rw [h1]
    exact ⟨ne_of_nat (by omega), ne_of_nat (by omega), ne_of_nat (by omega)⟩
  lz := fun e me => by
    obtain ⟨i, x, hi, mx, _, h2⟩ := mem_mkL me
    rw [h2]
    refine ⟨ne_lt2 _ _ (hl x mx), ne_lt2 _ _ (hl x mx), fun e' me' => ?_⟩
    obtain ⟨j, y, hj, _, h4, _⟩ := mem_mkL me'
    rw [h4]
    exact ne_lt1 _ (hl x mx)
theorem new_ok {st : Bool} {es : List SE} {Q : Value → Shared → Prop} (q : ∀ e ∈ es, e.Sq s.heap) (hn : es.length ≤ 1000) (hQ : ∀ h', Rec h' (s.heap.objs.size + es.length + 2) (s.heap.objs.size + es.length) (s.heap.objs.size + es.length + 1) st .none (.bool false) → Tp h' (s.heap.objs.size + es.length) ((mkL s.heap.objs.size es).map fun e => .ref e.it) → Tp h' (s.heap.objs.size + es.length + 1) (es.map fun _ => .none) → (∀ e ∈ mkL s.heap.objs.size es, e.At h' 0) → h'.objs.size = s.heap.objs.size + es.length + 3 → (∀ c o, s.heap.get? c = some o → h'.get? c = some o) → Q (.ref (s.heap.objs.size + es.length + 2)) { s with heap := h' }) :
    wpAny (model prog w) A (Builtin.«zip.__new__» ⟨.type "zip" :: es.map (fun e => .ref e.l), kwz st⟩) (fun fin s' => ∃ v, fin = .done (.ret v) ∧ Q v s') E s := by
  unfold Builtin.«zip.__new__»
  refine wpAny_bind ?_
  unfold Builtin.SmallTypes.newClass
  refine wpAny_bind (m := isType (.type "zip")) (wpAny_pure (a := true) ?_)
  refine wpAny_bind (m := isSubtype (.type "zip") (.type "zip")) (wpAny_of_eq sub_zip (wpAny_pure ?_))
  have main : wpAny (model prog w) A (do
      let its ← Builtin.SmallTypes.iterAll (es.map fun e => .ref e.l)
      ret (← Builtin.SmallTypes.newRecord (.type "zip") (Builtin.SmallTypes.ownedTupleFields ++ [.bool st, ← newTuple its, ← newTuple (its.map fun _ => .none)]))) (fun fin s' => ∃ v, fin = .done (.ret v) ∧ Q v s') E s := by
    refine wpAny_bind (iters_ok q fun h1 a1 s1 k1 => ?_)
    have hlen : ((mkL s.heap.objs.size es).map fun e => Value.ref e.it).length = es.length := by rw [List.length_map, mkL_len]
    refine wpAny_bind (wpAny_newTuple ?_ (by rw [hlen, sizeLine_eq]; omega))
    refine wpAny_bind (wpAny_newTuple ?_ (by rw [List.length_map, hlen, sizeLine_eq]; omega))
    unfold Builtin.SmallTypes.newRecord
    refine wpAny_bind (wpAny_newObj_type (hd := by show (5 : Nat) ≤ _; rw [sizeLine_eq]; decide) (wpAny_pure ⟨_, rfl, ?_⟩))
    have e1 : (({ s with heap := h1 } : Shared)).heap.objs.size = s.heap.objs.size + es.length := s1
    have e2 : (h1.push { cls := .type "tuple", data := .seq ((mkL s.heap.objs.size es).map fun e => Value.ref e.it).toArray }).objs.size = s.heap.objs.size + es.length + 1 := by rw [Heap.size_push, s1]
    have e3 : ((h1.push { cls := .type "tuple", data := .seq ((mkL s.heap.objs.size es).map fun e => Value.ref e.it).toArray }).push { cls := .type "tuple", data := .seq (((mkL s.heap.objs.size es).map fun e => Value.ref e.it).map fun _ => Value.none).toArray }).objs.size = s.heap.objs.size + es.length + 2 := by rw [Heap.size_push, e2]
    dsimp only
    rw [e3, e1, e2]
    refine hQ _ ?_ ?_ ?_ (fun e me => (a1 e me).keep fun o x => Heap.get?_push_of_some _ (Heap.get?_push_of_some _ (Heap.get?_push_of_some _ x))) ?_ fun c o x => Heap.get?_push_of_some _ (Heap.get?_push_of_some _ (Heap.get?_push_of_some _ (k1 c o x)))
    · unfold Rec
      rw [← e3]
      exact Heap.get?_push_size _ rfl
    · unfold Tp
      refine Heap.get?_push_of_some _ (Heap.get?_push_of_some _ ?_)
      rw [← s1]
      exact Heap.get?_push_size _ rfl
    · unfold Tp
      refine Heap.get?_push_of_some _ ?_
      rw [← e2]
      have e5 : (es.map fun _ => Value.none) = (((mkL s.heap.objs.size es).map fun e => Value.ref e.it).map fun _ => Value.none) := by
        rw [List.map_map]
        apply List.ext_getElem?
        intro i
        rw [List.getElem?_map, List.getElem?_map, mkL_get]
        cases es[i]? <;> rfl
      rw [e5]
      exact Heap.get?_push_size _ rfl
    · rw [Heap.size_push, e3]
  cases st with
  | true =>
    show wpAny _ _ (truthy (.bool true) >>= _) _ _ _
    exact wpAny_bind (wpAny_truthy_bool main)
  | false => exact main
/-- zip(a, b[, c][, strict=True]) is made -/
theorem call_zipN {st : Bool} {es : List SE} {Q : Value → Shared → Prop} (hf : few es) (q : ∀ e ∈ es, e.Sq s.heap) (hQ : ∀ h', Rec h' (s.heap.objs.size + es.length + 2) (s.heap.objs.size + es.length) (s.heap.objs.size + es.length + 1) st .none (.bool false) → Tp h' (s.heap.objs.size + es.length) ((mkL s.heap.objs.size es).map fun e => .ref e.it) → Tp h' (s.heap.objs.size + es.length + 1) (es.map fun _ => .none) → (∀ e ∈ mkL s.heap.objs.size es, e.At h' 0) → h'.objs.size = s.heap.objs.size + es.length + 3 → (∀ c o, s.heap.get? c = some o → h'.get? c = some o) → Q (.ref (s.heap.objs.size + es.length + 2)) { s with heap := h' }) :
    wpAny (model prog w) A (call (.type "zip") (es.map fun e => .ref e.l) (kwz st)) Q E s := by
  have hcall : ∀ (A' : Around) (R : Value → Shared → Prop) (E' : Value → Shared → Prop), (∀ h', Rec h' (s.heap.objs.size + es.length + 2) (s.heap.objs.size + es.length) (s.heap.objs.size + es.length + 1) st .none (.bool false) → Q (.ref (s.heap.objs.size + es.length + 2)) { s with heap := h' } → R (.ref (s.heap.objs.size + es.length + 2)) { s with heap := h' }) → wpAny (model prog w) A' (call (.builtin "zip.__new__") (.type "zip" :: es.map fun e => .ref e.l) (kwz st)) R E' s := fun A' R E' hR => by
    refine wpAny_call (codeAny_call_builtin (by decide +kernel) F.entry_zip_new (wpAny_of_eq (newCheck_zip hf st) ?_))
    refine wpAny_mono (new_ok q hf.le fun h' a1 a2 a3 a4 a5 a6 => hR h' a1 (hQ h' a1 a2 a3 a4 a5 a6)) (fun fin s' h' => ?_) fun _ _ x => x
    obtain ⟨v, rfl, hv⟩ := h'
    exact hv
  obtain ⟨c0, tl0, hmro⟩ := F.called_zip.mro
  have hmade := F.called_zip.made
  have hsub := F.called_zip.sub
  refine wpAny_call (codeAny_of_tree ?_)
  show wpAny _ _ (callAny (.type "zip") _) _ _ _
  refine wpAny_pure ⟨Code.quiet_builtin _ (by decide +kernel), codeAny_builtin F.entry_type_call ?_⟩
  rw [Around.under_plain (weight_type_call_type ..) (units_type_call_type ..)]
  have h1 := F.called_zip.notType
  have h2 := F.called_zip.canCreate
  have h3 := tyCheck_zip (es.map fun e => .ref e.l) (kwz st)
  unfold Builtin.«type.__call__»
  simp only [h1, h2, Bool.false_eq_true, if_false]
  refine wpAny_bind (wpAny_of_eq h3 (wpAny_bind (wpAny_of_eq hmro ?_)))
  simp only [List.isEmpty_cons, Bool.false_eq_true, if_false]
  refine wpAny_bind (wpAny_of_eq hmade (wpAny_bind (wpAny_pure (wpAny_bind (wpAny_holding (hcall _ _ _ fun h' a1 hq => ?_))))))
  have hT : Shared.TypeIs { s with heap := h' } (.ref (s.heap.objs.size + es.length + 2)) "zip" := ⟨_, a1, rfl⟩
  refine wpAny_bind (wpAny_isInstance hT hsub ?_)
  simp only [Bool.not_true, Bool.false_eq_true, if_false]
  refine wpAny_bind (wpAny_holding (wpAny_callSpecial?_slot hT F.called_zip.init (wpAny_call_entry_kw F.called_zip.init hT F.entry_object_init ?_ (initArgs_zip hf st _))))
  have hli := F.called_zip.init.lookup
  have fin : wpAny (model prog w) A.in1.in1 (Builtin.«object.__init__» ⟨Value.ref (s.heap.objs.size + es.length + 2) :: es.map (fun e => Value.ref e.l), kwz st⟩) (fun f s' => f = .done (.ret .none) ∧ s' = { s with heap := h' }) (fun _ _ => False) { s with heap := h' } := by
    unfold Builtin.«object.__init__»
    have hne : (!(es.map fun e => Value.ref e.l).isEmpty || !(kwz st).isEmpty) = true := by
      cases es with
      | nil => rcases hf with h | h <;> cases h
      | cons a es => rfl
    simp only [hne, if_true]
    refine wpAny_bind (wpAny_typeOf hT (wpAny_bind (wpAny_of_eq hli ?_)))
    refine wpAny_bind (wpAny_of_eq hmade ?_)
    have hnew : ((some "zip.__new__" : Option String) != some "object.__new__") = true := by decide
    simp only [hnew, Bool.or_true, Bool.not_true, bne_self_eq_false, Bool.false_eq_true, if_false]
    exact wpAny_pure ⟨rfl, rfl⟩
  refine wpAny_mono fin (fun f s' hf' => ?_) fun _ _ x => x.elim
  obtain ⟨rfl, rfl⟩ := hf'
  exact ⟨_, rfl, wpAny_pure hq⟩
end
end Ov.Z
set_option Elab.async false
set_option linter.all false
set_option maxRecDepth 100000
set_option maxHeartbeats 1000000
namespace Ov.Z
open PySem PySem.Spec PyProof.Rows L2
section
variable {prog : Program} {w : World} {A : Around} {E : Value → Shared → Prop} {s : Shared} {z TI TO : Addr} {st : Bool} {L : List ZE} {k : Nat}
theorem alive_at {a : Addr} {ob : Obj} {Q : Option Obj → Shared → Prop} (h : s.heap.get? a = some ob) (q : Q (some ob) s) : wpAny (model prog w) A (loadIfAlive a) Q E s := by
  have q2 : Q (s.heap.get? a) s := h ▸ q
  intro _ _ _
  exact q2
/-- the tuple handed out before is alive -/
theorem held_free {f : Bool} {T : Addr} {oT : Obj} {Q : Bool → Shared → Prop} (hz : Rec s.heap z TI TO st (rawInt T) (.bool f)) (hT : s.heap.get? T = some oT) (q : ∀ h', Rec h' z TI TO st (rawInt T) (.bool true) → Heap.SameBut z s.heap h' → Q false { s with heap := h' }) : wpAny (model prog w) A (Builtin.SmallTypes.ownedTupleIsFree (.ref z)) Q E s := by
  unfold Builtin.SmallTypes.ownedTupleIsFree
  refine wpAny_bind (wpAny_field hz rfl (x := rawInt T) rfl (show wpAny _ _ (loadIfAlive ((T : Int).toNat) >>= _) _ _ _ from ?_))
  rw [Int.toNat_natCast]
  refine wpAny_bind (alive_at hT ?_)
  simp only [Option.isNone_some, Bool.false_eq_true, if_false]
  refine wpAny_bind (wpAny_field hz rfl (x := .bool f) rfl ?_)
  cases f with
  | true => exact wpAny_pure (q s.heap hz (Heap.SameBut.refl _ _))
  | false => exact wpAny_bind (wpAny_setField_rec hz (by simp) fun h1 z1 b1 => wpAny_pure (q h1 z1 b1))
/-- amid the draws, the tuple kept left alone -/
structure MidB (s0 h : Heap) (z TI TO : Addr) (st : Bool) (f0 f1 : Value) (L : List ZE) (k j : Nat) : Prop where
  rec' : Rec h z TI TO st f0 f1
  its : ∀ (i : Nat) (e : ZE), L[i]? = some e → e.At h (if i < j then k + 1 else k)
  sqs : ∀ e ∈ L, e.Sq h
  size : h.objs.size = s0.objs.size
  kept : ∀ c o, c ≠ z → (∀ e ∈ L, c ≠ e.it) → s0.get? c = some o → h.get? c = some o
theorem MidB.step {s0 h h1 : Heap} {f0 f1 : Value} {j : Nat} {e : ZE} (D : Sep z TI TO L) (m : MidB s0 h z TI TO st f0 f1 L k j) (he : L[j]? = some e) (sb1 : Heap.SameBut e.it h h1) (a1 : e.At h1 (k + 1)) : MidB s0 h1 z TI TO st f0 f1 L k (j + 1) := by
  have me := mem_at he
  obtain ⟨i1, i2, i3⟩ := D.iz e me
  refine ⟨(sb1.2 z i1.symm).trans m.rec', fun i e' hi => ?_, fun e' m' => (m.sqs e' m').move sb1 ((D.lz e' m').2.2 e me), sb1.1.trans m.size, fun c o c1 c3 ho => (sb1.2 c (c3 e me)).trans (m.kept c o c1 c3 ho)⟩
  by_cases hij : i = j
  · subst hij
    rw [he] at hi
    cases hi
    rw [if_pos (Nat.lt_succ_self _)]
    exact a1
  · have h3 := m.its i e' hi
    have h4 : (if i < j + 1 then k + 1 else k) = (if i < j then k + 1 else k) := by
      by_cases hlt : i < j
      · rw [if_pos hlt, if_pos (by omega)]
      · rw [if_neg hlt, if_neg (by omega)]
    rw [h4]
    exact h3.move sb1 (it_inj D.its hi he hij)
theorem map_drop {L : List ZE} {j : Nat} {e : ZE} (h : L[j]? = some e) : (L.map fun e => Value.ref e.it).drop j = .ref e.it :: (L.map fun e => Value.ref e.it).drop (j + 1) := by
  obtain ⟨hj, h2⟩ := List.getElem?_eq_some_iff.mp h
  rw [List.drop_eq_getElem_cons (by rw [List.length_map]; exact hj), List.getElem_map, h2]
theorem next_busy (hne : L ≠ []) {f : Bool} {T : Addr} {oT : Obj} {Q : Value → Shared → Prop} (D : Sep z TI TO L) (hz : Rec s.heap z TI TO st (rawInt T) (.bool f)) (hT : s.heap.get? T = some oT) (hTI : Tp s.heap TI (L.map fun e => .ref e.it)) {old : List Value} (ho : old.length = L.length) (hTO : Tp s.heap TO old) (ha : ∀ e ∈ L, e.At s.heap k) (hs : ∀ e ∈ L, e.Sq s.heap) {xs : List Value} (hx : xs.length = L.length)
    (hxs : ∀ (j : Nat) (e : ZE) (x : Value), L[j]? = some e → xs[j]? = some x → e.xs[k]? = some x) (hn : L.length ≤ 1000) (hQ : ∀ h', Out s.heap h' z TI TO st (rawInt T) (.bool true) L k s.heap.objs.size xs → Q (.ref s.heap.objs.size) { s with heap := h' }) :
    wpAny (model prog w) A (Builtin.«zip.__next__» ⟨[.ref z], []⟩) (fun fin s' => ∃ v, fin = .done (.ret v) ∧ Q v s') E s := by
  show wpAny _ _ (field (.ref z) 2 >>= _) _ _ _
  refine wpAny_bind (wpAny_field hz rfl (x := .bool st) rfl ?_)
  show wpAny _ _ (field (.ref z) 3 >>= _) _ _ _
  refine wpAny_bind (wpAny_field hz rfl (x := .ref TI) rfl (wpAny_bind (wpAny_seqItems hTI rfl ?_)))
  have he : (L.map fun e => Value.ref e.it).toArray.isEmpty = false := by cases L with | nil => exact absurd rfl hne | cons e L => rfl
  simp only [he, Bool.false_eq_true, if_false]
  refine wpAny_bind (held_free hz hT fun h1 hz1 sb1 => ?_)
  simp only [Bool.false_eq_true, if_false]
  refine wpAny_bind ?_
  rw [← Array.forIn_toList]
  have m0 : MidB s.heap h1 z TI TO st (rawInt T) (.bool true) L k 0 := by
    refine ⟨hz1, fun i e hi => ?_, fun e m => (hs e m).move sb1 (D.lz e m).1, sb1.1, fun c o c1 _ x => (sb1.2 c c1).trans x⟩
    rw [if_neg (Nat.not_lt_zero _)]
    exact (ha e (mem_at hi)).move sb1 (D.iz e (mem_at hi)).1
  refine wpAny_forIn_list _ (fun rest (b : Option Fin × Array Value) s' => ∃ j h, b.1 = none ∧ b.2.toList = xs.take j ∧ rest = (L.map fun e => Value.ref e.it).drop j ∧ j ≤ L.length ∧ s' = { s with heap := h } ∧ MidB s.heap h z TI TO st (rawInt T) (.bool true) L k j) _ ?_ ?_ _ _ ⟨0, h1, rfl, rfl, rfl, Nat.zero_le _, rfl, m0⟩
  · rintro x rest b s' ⟨j, h, hb1, hb2, hr, hj, rfl, m⟩
    have hj2 : j < L.length := by
      refine Nat.lt_of_le_of_ne hj fun z => ?_
      rw [List.drop_eq_nil_of_le (by rw [List.length_map]; omega)] at hr
      cases hr
    have hej : L[j]? = some L[j] := List.getElem?_eq_getElem hj2
    have hxj : xs[j]? = some (xs[j]'(by omega)) := List.getElem?_eq_getElem (by omega)
    rw [map_drop hej] at hr
    cases hr
    have aj := m.its j _ hej
    rw [if_neg (Nat.lt_irrefl _)] at aj
    refine wpAny_bind (wpAny_holding (zd_of (s := { s with heap := h }) (st := st) (v := .ref L[j].it) ?_ (by cases st <;> rfl)))
    refine zd_item aj (m.sqs _ (mem_at hej)) (hxs j _ _ hej hxj) fun h2 a2 sb2 => ?_
    refine wpAny_pure ⟨j + 1, h2, rfl, ?_, rfl, hj2, rfl, m.step D hej sb2 a2⟩
    rw [Array.toList_push, hb2, List.take_add_one, hxj]
    rfl
  · rintro ⟨b1, b2⟩ s' ⟨j, h, hb1, hb2, hr, hj, rfl, m⟩
    dsimp only at hb1 hb2
    subst hb1
    have hjL : j = L.length := by
      have := congrArg List.length hr
      rw [List.length_drop, List.length_map, List.length_nil] at this
      omega
    subst hjL
    rw [List.take_of_length_le (by omega)] at hb2
    show wpAny _ _ (newTuple b2.toList >>= _) _ _ _
    rw [hb2]
    refine wpAny_bind (wpAny_newTuple ?_ (by rw [hx, sizeLine_eq]; omega))
    refine wpAny_pure ⟨_, rfl, ?_⟩
    have sz : h.objs.size = s.heap.objs.size := m.size
    have up : ∀ c o, h.get? c = some o → (h.push { cls := .type "tuple", data := .seq xs.toArray }).get? c = some o := fun c o x => Heap.get?_push_of_some _ x
    show Q (.ref h.objs.size) _
    rw [sz]
    refine hQ _ ⟨up _ _ m.rec', ⟨old, ho, ?_⟩, fun e me => ?_, ?_, ?_, fun c o c1 c2 c3 x => up c o (m.kept c o c1 c3 x)⟩
    · exact up TO _ (m.kept TO _ D.zTO (fun e me => (D.iz e me).2.2.symm) hTO)
    · obtain ⟨i, hi⟩ := List.mem_iff_getElem?.mp me
      have a := m.its i e hi
      rw [if_pos (List.getElem?_eq_some_iff.mp hi).1] at a
      exact a.keep fun o x => up _ o x
    · rw [← sz]
      exact Heap.get?_push_size _ rfl
    · rw [Heap.size_push, sz]
theorem stop_ok {α : Type} {Q : α → Shared → Prop} (hh : A.handled = none) (hE : ∀ h' x, (∀ c o, s.heap.get? c = some o → h'.get? c = some o) → (∃ o, h'.get? x = some o ∧ o.cls = .type "StopIteration") → E (.ref x) { s with heap := h' }) : wpAny (model prog w) A (Builtin.SmallTypes.stopIteration : Sem α) Q E s := by
  unfold Builtin.SmallTypes.stopIteration
  refine wpAny_bind ?_
  unfold newExc newTuple
  refine wpAny_bind (wpAny_newObj_type ?_ (by size_fits))
  refine wpAny_bind (m := firstArgMember _ _) (wpAny_of_eq (a := Value.none) (by simp only [firstArgMember]; rfl) ?_)
  exact wpAny_newObj_type (wpAny_raiseNew_none hh (hE _ _ (fun c o x => Heap.get?_push_of_some _ (Heap.get?_push_of_some _ x)) ⟨_, Heap.get?_push_size _ rfl, rfl⟩)) (by size_fits)
/-- what stands where the ends have come -/
def Fro (h0 h : Heap) (z TO : Addr) (L : List ZE) : Prop := ∀ c o, c ≠ z → c ≠ TO → (∀ e ∈ L, c ≠ e.it) → h0.get? c = some o → h.get? c = some o
theorem strict_end {Q : Fin → Shared → Prop} {e0 : ZE} {M : List ZE} {t : Sem Fin} (hh : A.handled = none) (hl : ((e0 :: M).map (·.it)).Nodup) (hll : ∀ e ∈ M, ∀ e' ∈ M, e.l ≠ e'.it) (ha : ∀ e ∈ M, e.At s.heap k) (hs : ∀ e ∈ M, e.Sq s.heap) (hend : ∀ e ∈ M, e.xs[k]? = none)
    (hE : ∀ h' x, (∀ c o, (∀ e ∈ M, c ≠ e.it) → s.heap.get? c = some o → h'.get? c = some o) → (∃ o, h'.get? x = some o ∧ o.cls = .type "StopIteration") → E (.ref x) { s with heap := h' })
    {f : Value × Nat → PUnit → Sem (ForInStep PUnit)} {g : Value → Nat → Option Value → Sem (ForInStep PUnit)} (ht : t = (forIn (((M.map fun e => Value.ref e.it)).zipIdx 1) PUnit.unit f >>= fun _ => rule "zip.__next__.all-ended" >>= fun _ => Builtin.SmallTypes.stopIteration))
    (hf : ∀ x j, f (x, j) ⟨⟩ = (Builtin.SmallTypes.nextOrEnd x >>= g x j)) (hg : ∀ x j, g x j none = pure (.yield ⟨⟩)) : wpAny (model prog w) A t Q E s := by
  subst ht
  refine wpAny_bind (wpAny_forIn_list _ (fun rest b s' => ∃ j h, rest = ((M.map fun e => Value.ref e.it).zipIdx 1).drop j ∧ j ≤ M.length ∧ s' = { s with heap := h } ∧ (∀ c o, (∀ i e, i < j → M[i]? = some e → c ≠ e.it) → s.heap.get? c = some o → h.get? c = some o)) _ ?_ ?_ _ _ ⟨0, s.heap, rfl, Nat.zero_le _, rfl, fun c o _ x => x⟩)
  · rintro x rest b s' ⟨j, h, hr, hj, rfl, hk⟩
    have hj2 : j < M.length := by
      refine Nat.lt_of_le_of_ne hj fun z => ?_
      rw [List.drop_eq_nil_of_le (by rw [List.length_zipIdx, List.length_map]; omega)] at hr
      cases hr
    have hej : M[j]? = some M[j] := List.getElem?_eq_getElem hj2
    rw [List.drop_eq_getElem_cons (by rw [List.length_zipIdx, List.length_map]; exact hj2), List.getElem_zipIdx, List.getElem_map] at hr
    cases hr
    have mj := List.getElem_mem hj2
    have nd := (List.nodup_cons.mp hl).2
    have ax : M[j].At h k := (ha _ mj).keep fun o x => hk _ o (fun i e hi he => it_inj nd hej he (by omega)) x
    have sx : M[j].Sq h := by
      have q := hs _ mj
      unfold ZE.Sq at q ⊢
      split
      · rename_i hc
        rw [if_pos hc] at q
        exact q.at fun o x => hk _ o (fun i e hi he => hll _ mj _ (mem_at he)) x
      · rename_i hc
        rw [if_neg hc] at q
        exact q.at fun o x => hk _ o (fun i e hi he => hll _ mj _ (mem_at he)) x
    rw [hf]
    refine wpAny_bind (orEnd_end (s := { s with heap := h }) hh ax sx (hend _ mj) fun h' eb => ?_)
    rw [hg]
    refine wpAny_pure ⟨j + 1, h', rfl, hj2, rfl, fun c o hc x => eb c o (hc j _ (Nat.lt_succ_self _) hej) (hk c o (fun i e hi he => hc i e (by omega) he) x)⟩
  · rintro b s' ⟨j, h, hr, hj, rfl, hk⟩
    refine wpAny_bind (wpAny_rule (stop_ok (s := { s with heap := h }) hh fun h' x k' hx => hE h' x (fun c o hc y => k' c o (hk c o (fun i e _ he => hc e (mem_at he)) y)) hx))
theorem next_end (hne : L ≠ []) {f0 f1 : Value} {Q : Fin → Shared → Prop} (hh : A.handled = none) (D : Sep z TI TO L) (hz : Rec s.heap z TI TO st f0 f1) (hf : f0 = .none ∨ ∃ (T : Addr) (oT : Obj) (f : Bool), f0 = rawInt T ∧ f1 = .bool f ∧ s.heap.get? T = some oT) (hTI : Tp s.heap TI (L.map fun e => .ref e.it)) {old : List Value} (hTO : Tp s.heap TO old) (ha : ∀ e ∈ L, e.At s.heap k) (hs : ∀ e ∈ L, e.Sq s.heap)
    (hend : ∀ e ∈ L, e.xs[k]? = none) (hE : ∀ h' x, Fro s.heap h' z TO L → (∃ o, h'.get? x = some o ∧ o.cls = .type "StopIteration") → E (.ref x) { s with heap := h' }) :
    wpAny (model prog w) A (Builtin.«zip.__next__» ⟨[.ref z], []⟩) Q E s := by
  obtain ⟨e0, M, rfl⟩ : ∃ e0 M, L = e0 :: M := by cases L with | nil => exact absurd rfl hne | cons e0 M => exact ⟨e0, M, rfl⟩
  show wpAny _ _ (field (.ref z) 2 >>= _) _ _ _
  refine wpAny_bind (wpAny_field hz rfl (x := .bool st) rfl ?_)
  show wpAny _ _ (field (.ref z) 3 >>= _) _ _ _
  refine wpAny_bind (wpAny_field hz rfl (x := .ref TI) rfl (wpAny_bind (wpAny_seqItems hTI rfl ?_)))
  have he : ((e0 :: M).map fun e => Value.ref e.it).toArray.isEmpty = false := rfl
  simp only [he, Bool.false_eq_true, if_false]
  have m0 : e0 ∈ e0 :: M := List.mem_cons_self
  obtain ⟨i1, i2, i3⟩ := D.iz e0 m0
  obtain ⟨l1, l2, l3⟩ := D.lz e0 m0
  rcases hf with rfl | ⟨T, oT, f, rfl, rfl, hT⟩
  · refine wpAny_bind ?_
    unfold Builtin.SmallTypes.ownedTupleIsFree
    refine wpAny_bind (wpAny_field hz rfl (x := .none) rfl (wpAny_pure ?_))
    simp only [if_true]
    refine wpAny_bind (wpAny_rule (wpAny_bind (wpAny_field hz rfl (x := .ref TO) rfl ?_)))
    refine wpAny_bind (wpAny_setField_rec hz (by simp) fun h1 hz1 sb1 => ?_)
    simp only [List.map_cons, List.zipIdx_cons, List.forIn_cons]
    refine wpAny_bind (wpAny_bind (wpAny_bind (wpAny_onRaise (zd_of (s := { s with heap := h1 }) (st := st) (v := .ref e0.it) ?_ (by cases st <;> rfl)))))
    have a1 : e0.At h1 k := (ha e0 m0).move sb1 i1
    have s1 : e0.Sq h1 := (hs e0 m0).move sb1 l1
    have zz : ∀ {h2 : Heap}, (∀ c o, c ≠ e0.it → h1.get? c = some o → h2.get? c = some o) → Rec h2 z TI TO st .ellipsis f1 := fun k => k z _ i1.symm hz1
    cases st with
    | false =>
      refine wpAny_bind (nextOf_end (s := { s with heap := h1 }) hh a1 s1 (hend e0 m0) fun h2 x eb ⟨oe, hoe, hce⟩ => ?_)
      refine wpAny_setField_rec (s := { s with heap := h2 }) (eb z _ i1.symm hz1) (by simp) fun h3 _ sb3 => hE h3 x (fun c o c1 _ c3 y => (sb3.2 c c1).trans (eb c o (c3 e0 m0) ((sb1.2 c c1).trans y))) ⟨oe, (sb3.2 x fun q => ?_).trans hoe, hce⟩
      subst q
      rw [eb _ _ i1.symm hz1] at hoe
      cases hoe
      simp at hce
    | true =>
      refine orEnd_end (s := { s with heap := h1 }) hh a1 s1 (hend e0 m0) fun h2 eb => ?_
      refine wpAny_bind (wpAny_setField_rec (s := { s with heap := h2 }) (eb z _ i1.symm hz1) (by simp) fun h3 _ sb3 => ?_)
      have up : ∀ c o, c ≠ z → c ≠ e0.it → s.heap.get? c = some o → h3.get? c = some o := fun c o c1 c2 y => (sb3.2 c c1).trans (eb c o c2 ((sb1.2 c c1).trans y))
      have nd : e0.it ∉ M.map (·.it) := (List.nodup_cons.mp D.its).1
      have ni : ∀ e ∈ M, e.it ≠ e0.it := fun e me q => nd (by rw [← q]; exact List.mem_map_of_mem me)
      refine wpAny_bind (strict_end (s := { s with heap := h3 }) (e0 := e0) (M := M) (k := k) hh D.its (fun e me e' me' => (D.lz e (.tail _ me)).2.2 e' (.tail _ me')) (fun e me => (ha e (.tail _ me)).keep fun o y => up _ o (D.iz e (.tail _ me)).1 (ni e me) y) (fun e me => ?_) (fun e me => hend e (.tail _ me)) (fun h' x kx hx => hE h' x (fun c o c1 _ c3 y => kx c o (fun e me => c3 e (.tail _ me)) (up c o c1 (c3 e0 m0) y)) hx) (by rfl) (fun x j => by rfl) (fun x j => by rfl))
      have q := hs e (.tail _ me)
      have nl := D.lz e (.tail _ me)
      unfold ZE.Sq at q ⊢
      split
      · rename_i hc
        rw [if_pos hc] at q
        exact q.at fun o y => up _ o nl.1 (nl.2.2 e0 m0) y
      · rename_i hc
        rw [if_neg hc] at q
        exact q.at fun o y => up _ o nl.1 (nl.2.2 e0 m0) y
  · refine wpAny_bind (held_free hz hT fun h1 hz1 sb1 => ?_)
    simp only [Bool.false_eq_true, if_false]
    refine wpAny_bind ?_
    rw [← Array.forIn_toList]
    simp only [List.map_cons, List.forIn_cons]
    have a1 : e0.At h1 k := (ha e0 m0).move sb1 i1
    have s1 : e0.Sq h1 := (hs e0 m0).move sb1 l1
    refine wpAny_bind (wpAny_bind (wpAny_holding (zd_of (s := { s with heap := h1 }) (st := st) (v := .ref e0.it) ?_ (by cases st <;> rfl))))
    cases st with
    | false => exact wpAny_bind (nextOf_end (s := { s with heap := h1 }) hh a1 s1 (hend e0 m0) fun h2 x eb hx => hE h2 x (fun c o c1 _ c3 y => eb c o (c3 e0 m0) ((sb1.2 c c1).trans y)) hx)
    | true =>
      refine orEnd_end (s := { s with heap := h1 }) hh a1 s1 (hend e0 m0) fun h3 eb => ?_
      have up : ∀ c o, c ≠ z → c ≠ e0.it → s.heap.get? c = some o → h3.get? c = some o := fun c o c1 c2 y => eb c o c2 ((sb1.2 c c1).trans y)
      have nd : e0.it ∉ M.map (·.it) := (List.nodup_cons.mp D.its).1
      have ni : ∀ e ∈ M, e.it ≠ e0.it := fun e me q => nd (by rw [← q]; exact List.mem_map_of_mem me)
      refine wpAny_bind (strict_end (s := { s with heap := h3 }) (e0 := e0) (M := M) (k := k) hh D.its (fun e me e' me' => (D.lz e (.tail _ me)).2.2 e' (.tail _ me')) (fun e me => (ha e (.tail _ me)).keep fun o y => up _ o (D.iz e (.tail _ me)).1 (ni e me) y) (fun e me => ?_) (fun e me => hend e (.tail _ me)) (fun h' x kx hx => hE h' x (fun c o c1 _ c3 y => kx c o (fun e me => c3 e (.tail _ me)) (up c o c1 (c3 e0 m0) y)) hx) (by rfl) (fun x j => by rfl) (fun x j => by rfl))
      have q := hs e (.tail _ me)
      have nl := D.lz e (.tail _ me)
      unfold ZE.Sq at q ⊢
      split
      · rename_i hc
        rw [if_pos hc] at q
        exact q.at fun o y => up _ o nl.1 (nl.2.2 e0 m0) y
      · rename_i hc
        rw [if_neg hc] at q
        exact q.at fun o y => up _ o nl.1 (nl.2.2 e0 m0) y
end
end Ov.Z
set_option Elab.async false
set_option linter.all false
set_option maxRecDepth 100000
set_option maxHeartbeats 1000000
namespace Ov.Z
open PySem PySem.Spec PyProof.Rows L2
def ZE.to (e : ZE) (xs : List Value) : ZE := { e with xs := xs.toArray }
theorem Sep.to {z TI TO : Addr} {L : List ZE} (F : ZE → List Value) (D : Sep z TI TO L) : Sep z TI TO (L.map fun e => e.to (F e)) where
  zTI := D.zTI
  zTO := D.zTO
  TT := D.TT
  its := by
    rw [List.map_map]
    exact D.its
  iz := fun e me => by
    obtain ⟨x, mx, rfl⟩ := List.mem_map.mp me
    exact D.iz x mx
  lz := fun e me => by
    obtain ⟨x, mx, rfl⟩ := List.mem_map.mp me
    refine ⟨(D.lz x mx).1, (D.lz x mx).2.1, fun e' me' => ?_⟩
    obtain ⟨y, my, rfl⟩ := List.mem_map.mp me'
    exact (D.lz x mx).2.2 y my
/-- a list or a tuple in the frame's heap -/
def SqK (K : PySem.W.Frag) (H : Hp) (e : ZE) (xs : List V) : Prop := if e.c then SqT K H e.l xs else SqL K H e.l xs
section
variable {X : Cx} {pins : List (Addr × Obj)} {σ : L2.St} {H : Hp} {s : Shared} {L : List ZE}
theorem sqk_at {e : ZE} {ys : List V} (I : Inv X pins σ H s) (q : SqK X.K H e ys) : ∃ us : List Value, Vals ys us ∧ (e.to us).Sq s.heap ∧ ys.length ≤ sizeLine := by
  unfold SqK at q
  unfold ZE.Sq ZE.to
  split at q
  · rename_i hc
    obtain ⟨us, rv, p, z⟩ := I.tuple q
    exact ⟨us, rv, by rw [if_pos hc]; exact p, z⟩
  · rename_i hc
    obtain ⟨us, rv, p, z⟩ := I.list q
    exact ⟨us, rv, by rw [if_neg hc]; exact p.isList, z⟩
/-- each one's items -/
theorem sqk_all (I : Inv X pins σ H s) (q : ∀ e ∈ L, ∃ ys, SqK X.K H e ys) : ∃ (Y : ZE → List V) (F : ZE → List Value), ∀ e ∈ L, SqK X.K H e (Y e) ∧ Vals (Y e) (F e) ∧ (e.to (F e)).Sq s.heap := by
  have h : ∀ e : ZE, ∃ p : List V × List Value, e ∈ L → SqK X.K H e p.1 ∧ Vals p.1 p.2 ∧ (e.to p.2).Sq s.heap := fun e => by
    by_cases me : e ∈ L
    · obtain ⟨ys, hy⟩ := q e me
      obtain ⟨us, a, b, _⟩ := sqk_at I hy
      exact ⟨(ys, us), fun _ => ⟨hy, a, b⟩⟩
    · exact ⟨([], []), fun x => absurd x me⟩
  exact ⟨fun e => (Classical.choose (h e)).1, fun e => (Classical.choose (h e)).2, fun e me => Classical.choose_spec (h e) me⟩
theorem vals_map {ys : ZE → V} {us : ZE → Value} : ∀ {L : List ZE}, (∀ e ∈ L, RelV (ys e) (us e)) → Vals (L.map ys) (L.map us)
  | [], _ => .nil
  | e :: L, h => .cons (h e List.mem_cons_self) (vals_map fun x m => h x (List.mem_cons_of_mem _ m))
theorem sqk_inj {e : ZE} {ys zs : List V} (I : Inv X pins σ H s) (a : SqK X.K H e ys) (b : SqK X.K H e zs) : ys = zs := by
  unfold SqK at a b
  split at a
  · rename_i hc
    rw [if_pos hc] at b
    exact I.tuple_inj a b
  · rename_i hc
    rw [if_neg hc] at b
    exact I.list_inj a b
/-- the walk over a zip -/
def Izp (K : PySem.W.Frag) (L : List ZE) (n : Nat) : It :=
  ⟨fun i H => i < n ∧ ∀ e ∈ L, ∃ ys : List V, SqK K H e ys ∧ ys.length = n,
    fun i H v H' => ∃ T xs, v = .ref T ∧ H T = none ∧ H' = upd H T (.tup xs) ∧ xs.length = L.length ∧ ∀ (j : Nat) (e : ZE), L[j]? = some e → ∀ ys, SqK K H e ys → xs[j]? = ys[i]?,
    fun i H => n = i ∧ ∀ e ∈ L, ∃ ys : List V, SqK K H e ys ∧ ys.length = n⟩
section
variable {prog : Program} {w : World} {A : Around} {E : Value → Shared → Prop} {z TI TO : Addr} {st : Bool} {k : Nat}
theorem pyNext_item (hne : L ≠ []) {f1 : Value} {Q : Option Value → Shared → Prop} (D : Sep z TI TO L) (hz : Rec s.heap z TI TO st .none f1) (hTI : Tp s.heap TI (L.map fun e => .ref e.it)) {old : List Value} (ho : old.length = L.length) (hTO : Tp s.heap TO old) (ha : ∀ e ∈ L, e.At s.heap k) (hs : ∀ e ∈ L, e.Sq s.heap) {xs : List Value} (hx : xs.length = L.length)
    (hxs : ∀ (j : Nat) (e : ZE) (x : Value), L[j]? = some e → xs[j]? = some x → e.xs[k]? = some x) (hn : L.length ≤ 1000) (hQ : ∀ h', Out s.heap h' z TI TO st (rawInt s.heap.objs.size) (.bool false) L k s.heap.objs.size xs → Q (some (.ref s.heap.objs.size)) { s with heap := h' }) : wpAny (model prog w) A (pyNext (.ref z)) Q E s := by
  have hT : s.TypeIs (.ref z) "zip" := ⟨_, hz, rfl⟩
  unfold pyNext
  exact wpAny_bind (wpAny_attempt (wpAny_callSpecial?_slot (name := Str.ofString "__next__") hT F.slot_zip_next (wpAny_call_entry F.slot_zip_next hT F.entry_zip_next (next_free hne D hz hTI ho hTO ha hs hx hxs hn fun h' o => wpAny_pure (hQ h' o)) (F.args_zip_next_1 _))))
theorem pyNext_held (hne : L ≠ []) {f : Bool} {T : Addr} {oT : Obj} {Q : Option Value → Shared → Prop} (D : Sep z TI TO L) (hz : Rec s.heap z TI TO st (rawInt T) (.bool f)) (hl : s.heap.get? T = some oT) (hTI : Tp s.heap TI (L.map fun e => .ref e.it)) {old : List Value} (ho : old.length = L.length) (hTO : Tp s.heap TO old) (ha : ∀ e ∈ L, e.At s.heap k) (hs : ∀ e ∈ L, e.Sq s.heap) {xs : List Value} (hx : xs.length = L.length)
    (hxs : ∀ (j : Nat) (e : ZE) (x : Value), L[j]? = some e → xs[j]? = some x → e.xs[k]? = some x) (hn : L.length ≤ 1000) (hQ : ∀ h', Out s.heap h' z TI TO st (rawInt T) (.bool true) L k s.heap.objs.size xs → Q (some (.ref s.heap.objs.size)) { s with heap := h' }) : wpAny (model prog w) A (pyNext (.ref z)) Q E s := by
  have hT : s.TypeIs (.ref z) "zip" := ⟨_, hz, rfl⟩
  unfold pyNext
  exact wpAny_bind (wpAny_attempt (wpAny_callSpecial?_slot (name := Str.ofString "__next__") hT F.slot_zip_next (wpAny_call_entry F.slot_zip_next hT F.entry_zip_next (next_busy hne D hz hl hTI ho hTO ha hs hx hxs hn fun h' o => wpAny_pure (hQ h' o)) (F.args_zip_next_1 _))))
theorem pyNext_end (hne : L ≠ []) {f0 f1 : Value} {Q : Option Value → Shared → Prop} (hh : A.handled = none) (D : Sep z TI TO L) (hz : Rec s.heap z TI TO st f0 f1) (hf : f0 = .none ∨ ∃ (T : Addr) (oT : Obj) (f : Bool), f0 = rawInt T ∧ f1 = .bool f ∧ s.heap.get? T = some oT) (hTI : Tp s.heap TI (L.map fun e => .ref e.it)) {old : List Value} (hTO : Tp s.heap TO old) (ha : ∀ e ∈ L, e.At s.heap k) (hs : ∀ e ∈ L, e.Sq s.heap)
    (hend : ∀ e ∈ L, e.xs[k]? = none) (hQ : ∀ h', Fro s.heap h' z TO L → Q none { s with heap := h' }) : wpAny (model prog w) A (pyNext (.ref z)) Q E s := by
  have hT : s.TypeIs (.ref z) "zip" := ⟨_, hz, rfl⟩
  unfold pyNext
  refine wpAny_bind (wpAny_attempt (wpAny_callSpecial?_slot (name := Str.ofString "__next__") hT F.slot_zip_next (wpAny_call_entry F.slot_zip_next hT F.entry_zip_next (next_end hne hh D hz hf hTI hTO ha hs hend fun h' x fr ⟨o, ho, hc⟩ => ?_) (F.args_zip_next_1 _))))
  exact wpAny_bind (wpAny_isInstance (T := "StopIteration") (b := true) ⟨o, ho, hc⟩ isSubtype_stop (wpAny_pure (hQ h' fr)))
theorem iter_self {f0 f1 : Value} {Q : Value → Shared → Prop} (hz : Rec s.heap z TI TO st f0 f1) (h : Q (.ref z) s) : wpAny (model prog w) A (pyIter (.ref z)) Q E s := by
  have hT : s.TypeIs (.ref z) "zip" := ⟨_, hz, rfl⟩
  refine wpAny_pyIter_slot hT F.slot_zip_iter (wpAny_call_entry F.slot_zip_iter hT F.entry_zip_iter (show wpAny _ _ (ret (.ref z)) _ _ s from ?_) (F.args_zip_iter_1 _))
  exact wpAny_pure ⟨_, rfl, "zip", _, hT, F.slot_zip_next.lookup, h⟩
theorem go_tuple {elts : List Expr} {kk : Nat} {pos : Pos} {T : Addr} {f1 : Value} {Q : Unit → Shared → Prop} (hz : Rec s.heap z TI TO st (rawInt T) f1) (hQ : ∀ h', Rec h' z TI TO st .none f1 → Heap.SameBut z s.heap h' → Q () { s with heap := h' }) : wpAny (model prog w) A (letOwnedTupleGo (.Tuple elts kk pos) (.ref z) (.ref T)) Q E s := by
  unfold letOwnedTupleGo
  refine wpAny_bind (wpAny_load hz (show wpAny _ _ (if (["enumerate", "zip", "dict_itemiterator", "dict_reverseitemiterator", "odict_iterator", "itertools.zip_longest", "itertools.pairwise"].contains "zip" && (#[rawInt T, f1, .bool st, .ref TI, .ref TO] : Array Value)[0]? == some (rawInt T)) = true then _ else _) Q E s from ?_))
  rw [if_pos (by simp)]
  exact wpAny_bind (wpAny_rule (wpAny_setField_rec hz (by simp) fun h1 z1 b1 => hQ h1 z1 b1))
end
/-- the zip amid a walk -/
structure Zst (z TI TO : Addr) (st : Bool) (L : List ZE) (i : Nat) (h : Heap) : Prop where
  rec' : ∃ f1, Rec h z TI TO st .none f1
  ti : Tp h TI (L.map fun e => .ref e.it)
  to : ∃ vs : List Value, vs.length = L.length ∧ Tp h TO vs
  its : ∀ e ∈ L, e.At h i
theorem mem_fp {z TI TO c : Addr} (h : c ∈ z :: TI :: TO :: L.map (·.it)) : c = z ∨ c = TI ∨ c = TO ∨ ∃ e ∈ L, c = e.it := by
  simp only [List.mem_cons, List.mem_map] at h
  rcases h with h | h | h | ⟨e, me, h⟩
  · exact .inl h
  · exact .inr (.inl h)
  · exact .inr (.inr (.inl h))
  · exact .inr (.inr (.inr ⟨e, me, h.symm⟩))
theorem turn_zipN {P : Program} {w : World} {K : PySem.W.Frag} {elts : List Expr} {kk : Nat} {tpos : Pos} {z TI TO : Addr} {st : Bool} {n : Nat} (hne : L ≠ []) (hn : L.length ≤ 1000) (D : Sep z TI TO L) :
    Turn P w K (.Tuple elts kk tpos) (Izp K L n) (z :: TI :: TO :: L.map (·.it)) z (Zst z TI TO st L) where
  mem := List.mem_cons_self
  obj := fun i h t c hc => by
    obtain ⟨f1, hz⟩ := t.rec'
    obtain ⟨vs, _, hTO⟩ := t.to
    rcases mem_fp hc with q | q | q | ⟨e, me, q⟩
    · subst q
      exact ⟨_, hz, fun v q => nomatch q⟩
    · subst q
      exact ⟨_, t.ti, fun v q => nomatch q⟩
    · subst q
      exact ⟨_, hTO, fun v q => nomatch q⟩
    · have a := t.its e me
      unfold ZE.At at a
      rw [q]
      split at a
      · obtain ⟨o, e1, _, d1⟩ := a
        exact ⟨o, e1, fun v q => by rw [d1] at q; cases q⟩
      · obtain ⟨o, e1, _, d1⟩ := a
        exact ⟨o, e1, fun v q => by rw [d1] at q; cases q⟩
  keep := fun i h h' t k => by
    obtain ⟨f1, hz⟩ := t.rec'
    obtain ⟨vs, hl, hTO⟩ := t.to
    exact ⟨⟨f1, k z (by simp) _ hz⟩, k TI (by simp) _ t.ti, ⟨vs, hl, k TO (by simp) _ hTO⟩, fun e me => (t.its e me).keep fun o x => k e.it (by simp only [List.mem_cons, List.mem_map]; exact .inr (.inr (.inr ⟨e, me, rfl⟩))) o x⟩
  item := by
    intro X hP hw hK hc i pins s σ H E I hf t hg
    subst hP hw hK
    obtain ⟨f1, hz⟩ := t.rec'
    obtain ⟨vs, hl, hTO⟩ := t.to
    obtain ⟨hi, hq⟩ := hg
    obtain ⟨Y, G, hY⟩ := sqk_all I fun e me => (hq e me).imp fun _ h => h.1
    have hlen : ∀ e ∈ L, (Y e).length = n := fun e me => by
      obtain ⟨ys, h1, h2⟩ := hq e me
      rw [sqk_inj I (hY e me).1 h1, h2]
    have hlenG : ∀ e ∈ L, (G e).length = n := fun e me => by rw [← (hY e me).2.1.length, hlen e me]
    have rel : ∀ e ∈ L, RelV ((Y e).getD i .non) ((G e).getD i .none) := fun e me => by
      have h1 : (Y e)[i]? = some ((Y e)[i]'(by rw [hlen e me]; exact hi)) := List.getElem?_eq_getElem _
      obtain ⟨u, h2, r⟩ := (hY e me).2.1.get h1
      rw [List.getD_eq_getElem?_getD, List.getD_eq_getElem?_getD, h1, h2]
      exact r
    have hzl : z < s.heap.objs.size := Heap.lt_size hz
    have hLG : (L.map fun e => e.to (G e)).length = L.length := List.length_map ..
    refine pyNext_item (L := L.map fun e => e.to (G e)) (xs := L.map fun e => (G e).getD i .none) (k := i) (fun q => hne (List.map_eq_nil_iff.mp q)) (D.to G) hz (by rw [List.map_map]; exact t.ti) (by rw [hLG]; exact hl) hTO (fun e me => ?_) (fun e me => ?_) (by rw [List.length_map, hLG]) (fun j e x he hx => ?_) (by rw [hLG]; exact hn) fun h1 o => ?_
    · obtain ⟨y, my, rfl⟩ := List.mem_map.mp me
      exact t.its y my
    · obtain ⟨y, my, rfl⟩ := List.mem_map.mp me
      exact (hY y my).2.2
    · rw [List.getElem?_map] at he hx
      cases hj : L[j]? with
      | none => rw [hj] at he; cases he
      | some y =>
        rw [hj] at he hx
        cases he
        cases hx
        have my := mem_at hj
        show (G y).toArray[i]? = some ((G y).getD i .none)
        rw [List.getElem?_toArray, List.getD_eq_getElem?_getD, List.getElem?_eq_getElem (by rw [hlenG y my]; exact hi)]
        rfl
    · refine ⟨_, rfl, go_tuple (s := { s with heap := h1 }) o.rec' fun h2 z2 sb => ?_⟩
      have hT2 : h2.get? s.heap.objs.size = some { cls := .type "tuple", data := .seq (L.map fun e => (G e).getD i .none).toArray } := (sb.2 _ (Nat.ne_of_gt hzl)).trans o.new
      have rv : Vals (L.map fun e => (Y e).getD i .non) (L.map fun e => (G e).getD i .none) := vals_map rel
      have new : ObjOk X.prog X.w (upd H s.heap.objs.size (.tup (L.map fun e => (Y e).getD i .non))) h2 s.heap.objs.size (.tup (L.map fun e => (Y e).getD i .non)) :=
        ⟨by rw [List.length_map, sizeLine_eq]; omega, _, rv, ⟨_, hT2, rfl, _, rfl⟩⟩
      have up : ∀ c o, c ∉ z :: TI :: TO :: L.map (·.it) → s.heap.get? c = some o → h2.get? c = some o := fun c ob hc q => by
        simp only [List.mem_cons, List.mem_map, not_or, not_exists, not_and] at hc
        refine (sb.2 c hc.1).trans (o.kept c ob hc.1 hc.2.2.1 (fun e me => ?_) q)
        obtain ⟨y, my, rfl⟩ := List.mem_map.mp me
        exact fun q => hc.2.2.2 y my q.symm
      have I1 := I.turnedNew (t' := s.toks) up hf (Nat.le_refl _) new
      refine ⟨.ref s.heap.objs.size, _, I1, rfl, ⟨_, _, rfl, I.hok.fresh (Nat.le_refl _), rfl, List.length_map .., fun j e he ys hys => ?_⟩, ⟨⟨_, z2⟩, ?_, ?_, fun e me => ?_⟩, fun c hcm => ?_⟩
      · have me := mem_at he
        rw [sqk_inj I hys (hY e me).1, List.getElem?_map, he, List.getElem?_eq_getElem (by rw [hlen e me]; exact hi)]
        show some ((Y e).getD i .non) = _
        rw [List.getD_eq_getElem?_getD, List.getElem?_eq_getElem (by rw [hlen e me]; exact hi)]
        rfl
      · refine (sb.2 _ D.zTI).trans (o.kept TI _ D.zTI D.TT (fun e me => ?_) t.ti)
        obtain ⟨y, my, rfl⟩ := List.mem_map.mp me
        exact (D.iz y my).2.1.symm
      · obtain ⟨us, h3, h4⟩ := o.to
        exact ⟨us, by rw [h3, hLG], (sb.2 _ D.zTO).trans h4⟩
      · have a : (e.to (G e)).At h1 (i + 1) := o.its _ (List.mem_map_of_mem me)
        have a2 : e.At h1 (i + 1) := a
        exact a2.keep fun ob x => (sb.2 _ (D.iz e me).1).trans x
      · have hlt : c < s.heap.objs.size := by
          rcases mem_fp hcm with q | q | q | ⟨e, me, q⟩
          · rw [q]; exact hzl
          · rw [q]; exact Heap.lt_size t.ti
          · rw [q]; exact Heap.lt_size hTO
          · rw [q]; exact (t.its e me).lt
        rw [upd_ne (Nat.ne_of_lt hlt)]
        exact (hf c hcm).1
  done := by
    intro X hP hw hK hc i pins s σ H E I hf t hg
    subst hP hw hK
    obtain ⟨f1, hz⟩ := t.rec'
    obtain ⟨vs, hl, hTO⟩ := t.to
    obtain ⟨hi, hq⟩ := hg
    obtain ⟨Y, G, hY⟩ := sqk_all I fun e me => (hq e me).imp fun _ h => h.1
    have hlenG : ∀ e ∈ L, (G e).length = n := fun e me => by
      obtain ⟨ys, h1, h2⟩ := hq e me
      rw [← (hY e me).2.1.length, sqk_inj I (hY e me).1 h1, h2]
    refine pyNext_end (L := L.map fun e => e.to (G e)) (k := i) (fun q => hne (List.map_eq_nil_iff.mp q)) (I.ok.hd hc) (D.to G) hz (.inl rfl) (by rw [List.map_map]; exact t.ti) hTO (fun e me => ?_) (fun e me => ?_) (fun e me => ?_) fun h' fr => ⟨rfl, I.turnedL (t' := s.toks) (fun c ob hc q => ?_) hf⟩
    · obtain ⟨y, my, rfl⟩ := List.mem_map.mp me
      exact t.its y my
    · obtain ⟨y, my, rfl⟩ := List.mem_map.mp me
      exact (hY y my).2.2
    · obtain ⟨y, my, rfl⟩ := List.mem_map.mp me
      show (G y).toArray[i]? = none
      rw [List.getElem?_toArray, List.getElem?_eq_none (by rw [hlenG y my]; omega)]
    · simp only [List.mem_cons, List.mem_map, not_or, not_exists, not_and] at hc
      refine fr c ob hc.1 hc.2.2.1 (fun e me => ?_) q
      obtain ⟨y, my, rfl⟩ := List.mem_map.mp me
      exact fun q => hc.2.2.2 y my q.symm
  self := fun A i s Q E t h => by
    obtain ⟨f1, hz⟩ := t.rec'
    exact iter_self hz h
end
end Ov.Z
set_option Elab.async false
set_option linter.all false
set_option maxRecDepth 100000
set_option maxHeartbeats 1000000
namespace Ov.Z
open PySem PySem.Spec PyProof.Rows L2
/-! ### zip made in a frame -/
section
variable {M : Model} {A : Around} {E : Value → Shared → Prop} {s : Shared} {env : Env}
theorem tyKw {pos : Pos} {T : String} {xs : List (Bool × Sem Value)} {kws : List (Option Str × Sem Value)} {Q : Value → Shared → Prop} (h1 : xs.any (·.1) = false) (h2 : kws.any (·.1.isNone) = false)
    (h : wpAny M A (evalArgs (.type T) true xs kws) (fun a s1 => wpAny M A (call (.type T) a.pos a.kw) Q E s1) E s) : wpAny M A (callWith pos (.type T) [] xs kws) Q E s := by
  unfold callWith
  refine wpAny_bind (wpAny_holding (wpAny_mono h (fun a s1 q => wpAny_bind (wpAny_standAt ?_)) fun _ _ y => y))
  simp only [h1, h2, Bool.or_false]
  exact wpAny_bind (wpAny_pure (wpAny_bind (wpAny_mono q (fun r s2 y => wpAny_bind (wpAny_holding (wpAny_point (wpAny_pure y)))) fun _ _ y => y)))
end
section
variable {X : Cx} {pins : List (Addr × Obj)} {σ : L2.St} {H : Hp} {s : Shared} {n : Nat}
/-- what is zipped, by kind and place -/
abbrev Src := List (Bool × Addr)
def SqC (K : PySem.W.Frag) (H : Hp) (c : Bool × Addr) (xs : List V) : Prop := if c.1 then SqT K H c.2 xs else SqL K H c.2 xs
def Lz (a : Addr) (cs : Src) : List ZE := cs.mapIdx fun i c => ⟨a + i, c.2, c.1, #[]⟩
theorem lz_len {a : Addr} {cs : Src} : (Lz a cs).length = cs.length := by simp [Lz]
theorem lz_get {a : Addr} {cs : Src} {i : Nat} : (Lz a cs)[i]? = cs[i]?.map fun c => ⟨a + i, c.2, c.1, #[]⟩ := by simp [Lz]
/-- zip called -/
theorem zip_made {st : Bool} {cs : Src} {elts : List Expr} {kk : Nat} {tpos : Pos} {R : It → Hp → Prop} (I : Inv X pins σ H s) (hf : cs.length = 2 ∨ cs.length = 3) (hq : ∀ c ∈ cs, ∃ ys, SqC X.K H c ys ∧ ys.length = n) (q : ∀ L : List ZE, L.map (fun e => (e.c, e.l)) = cs → R (Izp X.K L n) H) :
    wpAny (model X.prog X.w) X.A (call (.type "zip") (cs.map fun c => .ref c.2) (kwz st)) (fun v s1 => wpAny (model X.prog X.w) X.A (pyIter v) (PIE X pins σ (.Tuple elts kk tpos) R) X.xe s1) X.xe s := by
  have ex : ∀ c : Bool × Addr, ∃ us : List Value, c ∈ cs → (⟨c.2, c.1, us.toArray⟩ : SE).Sq s.heap := fun c => by
    by_cases mc : c ∈ cs
    · obtain ⟨ys, hy, _⟩ := hq c mc
      obtain ⟨us, _, h, _⟩ := sqk_at (e := ⟨0, c.2, c.1, #[]⟩) I hy
      exact ⟨us, fun _ => h⟩
    · exact ⟨[], fun x => absurd x mc⟩
  have ex2 : ∃ F : Bool × Addr → List Value, ∀ c ∈ cs, (⟨c.2, c.1, (F c).toArray⟩ : SE).Sq s.heap := ⟨fun c => Classical.choose (ex c), fun c => Classical.choose_spec (ex c)⟩
  obtain ⟨F, hF⟩ := ex2
  have hl : (cs.map fun c => (⟨c.2, c.1, (F c).toArray⟩ : SE)).length = cs.length := List.length_map ..
  have lt : ∀ c ∈ cs, c.2 < s.heap.objs.size := fun c mc => by
    have h := hF c mc
    unfold SE.Sq at h
    split at h
    · obtain ⟨o, h1, _⟩ := h
      exact Heap.lt_size h1
    · obtain ⟨o, h1, _⟩ := h
      exact Heap.lt_size h1
  have e0 : (cs.map fun c => Value.ref c.2) = (cs.map fun c => (⟨c.2, c.1, (F c).toArray⟩ : SE)).map fun e => Value.ref e.l := by rw [List.map_map]; rfl
  rw [e0]
  refine call_zipN (by unfold few; rw [hl]; exact hf) (fun e me => ?_) fun h' hz hTI hTO ha hsz hk => ?_
  · obtain ⟨c, mc, rfl⟩ := List.mem_map.mp me
    exact hF c mc
  · rw [hl] at hz hTI hTO hsz
    have el : mkL s.heap.objs.size (cs.map fun c => (⟨c.2, c.1, (F c).toArray⟩ : SE)) = (Lz s.heap.objs.size cs).map fun e => e.to (F (e.c, e.l)) := by
      apply List.ext_getElem?
      intro i
      rw [mkL_get, List.getElem?_map, List.getElem?_map, lz_get]
      cases cs[i]? <;> rfl
    have eit : ((mkL s.heap.objs.size (cs.map fun c => (⟨c.2, c.1, (F c).toArray⟩ : SE))).map fun e => Value.ref e.it) = (Lz s.heap.objs.size cs).map fun e => Value.ref e.it := by rw [el, List.map_map]; rfl
    rw [eit] at hTI
    have D0 : Sep (s.heap.objs.size + cs.length + 2) (s.heap.objs.size + cs.length) (s.heap.objs.size + cs.length + 1) (Lz s.heap.objs.size cs) := by
      have h := sep_mk (a := s.heap.objs.size) (es := cs.map fun c => (⟨c.2, c.1, #[]⟩ : SE)) fun e me => by
        obtain ⟨c, mc, rfl⟩ := List.mem_map.mp me
        exact lt c mc
      rw [List.length_map] at h
      have e2 : mkL s.heap.objs.size (cs.map fun c => (⟨c.2, c.1, #[]⟩ : SE)) = Lz s.heap.objs.size cs := by
        apply List.ext_getElem?
        intro i
        rw [mkL_get, List.getElem?_map, lz_get]
        cases cs[i]? <;> rfl
      rw [e2] at h
      exact h
    have I2 : Inv X pins σ H { s with heap := h' } := I.kept (t' := s.toks) hk
    rw [hl]
    refine iter_self hz ⟨_, _, _, _, H, rfl, I2, turn_zipN (n := n) (L := Lz s.heap.objs.size cs) (fun z => ?_) ?_ D0, ⟨⟨_, hz⟩, hTI, ⟨_, ?_, hTO⟩, fun e me => ?_⟩, fun b hb => ?_, q _ ?_⟩
    · have := congrArg List.length z
      rw [lz_len] at this
      rcases hf with h | h <;> rw [h] at this <;> cases this
    · rw [lz_len]
      rcases hf with h | h <;> rw [h] <;> decide
    · rw [List.length_map, List.length_map, lz_len]
    · have : e.to (F (e.c, e.l)) ∈ mkL s.heap.objs.size (cs.map fun c => (⟨c.2, c.1, (F c).toArray⟩ : SE)) := by
        rw [el]
        exact List.mem_map_of_mem me
      have a0 : (e.to (F (e.c, e.l))).At h' 0 := ha _ this
      exact a0
    · have hle : s.heap.objs.size ≤ b := by
        rcases mem_fp hb with z | z | z | ⟨e, me, z⟩
        · rw [z]; exact Nat.le_trans (Nat.le_add_right _ _) (Nat.le_add_right _ _)
        · rw [z]; exact Nat.le_add_right _ _
        · rw [z]; exact Nat.le_trans (Nat.le_add_right _ _) (Nat.le_add_right _ _)
        · obtain ⟨i, hi⟩ := List.mem_iff_getElem?.mp me
          rw [lz_get] at hi
          cases hc : cs[i]? with
          | none => rw [hc] at hi; cases hi
          | some c =>
            rw [hc] at hi
            cases hi
            rw [z]
            exact Nat.le_add_right _ _
      exact I.fpOk hle (I.hok.fresh hle)
    · apply List.ext_getElem?
      intro i
      rw [List.getElem?_map, lz_get]
      cases cs[i]? <;> rfl
end
def iZp (K : PySem.W.Frag) (n : Nat) (ta : TA) : TI := fun σ H R => ta σ H fun vs H1 => ∃ cs : Src, vs = cs.map (fun c => .ref c.2) ∧ (cs.length = 2 ∨ cs.length = 3) ∧ (∀ c ∈ cs, ∃ ys, SqC K H1 c ys ∧ ys.length = n) ∧ ∀ L : List ZE, L.map (fun e => (e.c, e.l)) = cs → R (Izp K L n) H1
theorem refs_of : ∀ {cs : Src} {us : List Value}, Vals (cs.map fun c => V.ref c.2) us → us = cs.map fun c => Value.ref c.2
  | [], _, .nil => rfl
  | c :: cs, _, .cons r t => by
    cases r
    rw [refs_of t]
    rfl
section
variable {X : Cx} {n : Nat} {ea : Expr} {es : List Expr} {ta : TA} {p pos tpos : Pos} {elts : List Expr} {kk : Nat}
theorem pi_zipN (hm : X.mg "zip" = none) (ha : PA X (ea :: es) ta) (hg : Gl X "zip" := by rfl)
    (hs : starEach (ea :: es) X.env = (false, eval ea X.env) :: starEach es X.env := by rfl) (hpl : (backTo pos (starEach es X.env)).any (·.1) = false := by rfl) :
    PI X (.Tuple elts kk tpos) (.Call (.Name "zip" p) (ea :: es) [] pos) (iZp X.K n ta) :=
  ⟨fun pins s σ H R I h => Call_ (ld_blt I hg hm PyProof.Rows.boot_zip (PyProof.Rows.callWith_type1 (thn (ha.run pos pins s σ H _ I h) fun us s1 ⟨vs, H1, I1, r1, cs, e1, hf, hq, q⟩ => by
    subst e1
    rw [refs_of r1]
    exact zip_made (st := false) I1 hf hq q) hs hpl))⟩
theorem pi_zipS {j : Nat} {p2 p3 : Pos} (hm : X.mg "zip" = none) (ha : PA X (ea :: es) ta) (hg : Gl X "zip" := by rfl)
    (he : backTo pos (starEach (ea :: es) X.env) = (false, eval ea X.env) :: backTo pos (starEach es X.env) := by rfl) (hpl : (backTo pos (starEach (ea :: es) X.env)).any (·.1) = false := by rfl) :
    PI X (.Tuple elts kk tpos) (.Call (.Name "zip" p) (ea :: es) [⟨some "strict", .Constant (.bool true) j p2, p3⟩] pos) (iZp X.K n ta) :=
  ⟨fun pins s σ H R I h => by
    refine wpAny_Call_Name_kw (ld_blt I hg hm PyProof.Rows.boot_zip ?_)
    refine tyKw hpl (by rfl) ?_
    have main := ha.run pos pins s σ H _ I h
    rw [he] at main ⊢
    refine evalArgs_kwB (by rfl) (thn main fun us s1 ⟨vs, H1, I1, r1, cs, e1, hf, hq, q⟩ => kws_cons ?_)
    subst e1
    rw [refs_of r1]
    refine thn ((pe_bl (X := X) (b := true)).run pins s1 σ H1 (fun v H2 => v = .bl true ∧ H2 = H1) I1 ⟨rfl, rfl⟩) fun v s2 ⟨x, H2, I2, r2, e2, e3⟩ => kws_nil ?_
    subst e2 e3
    cases r2
    exact zip_made (st := true) I2 hf hq q⟩
end
end Ov.Z
set_option Elab.async false
set_option linter.all false
set_option maxRecDepth 100000
set_option maxHeartbeats 1000000
namespace Ov
open PySem PySem.Spec PyProof.Rows L2
abbrev Zas := List (Bool × List PyData)
abbrev Zas.ds (as : Zas) : List PyData := as.map fun a => sq a.1 a.2
/-- the tuples of a zip -/
def zipD (as : Zas) (n : Nat) : List PyData := (List.range n).map fun i => .tuple (as.map fun a => a.2.getD i .none)
theorem zipD_len {as : Zas} {n : Nat} : (zipD as n).length = n := by simp [zipD]
theorem zipD_get {as : Zas} {n i : Nat} {d : PyData} (h : (zipD as n)[i]? = some d) : i < n ∧ d = .tuple (as.map fun a => a.2.getD i .none) := by
  unfold zipD at h
  rw [List.getElem?_map] at h
  by_cases hi : i < n
  · rw [List.getElem?_range hi] at h
    cases h
    exact ⟨hi, rfl⟩
  · rw [List.getElem?_eq_none (by rw [List.length_range]; omega)] at h
    cases h
section
variable {K : PySem.W.Frag} {S H : Hp} {e : En}
theorem zas_refs : ∀ {as : Zas} {vs : List V}, DaL K S as.ds vs → ∃ cs : Z.Src, vs = cs.map (fun c => .ref c.2) ∧ cs.map (·.1) = as.map (·.1)
  | [], vs, h => by
    simp only [Zas.ds, List.map_nil, DaL] at h
    exact ⟨[], h, rfl⟩
  | (true, ds) :: as, vs, h => by
    simp only [Zas.ds, List.map_cons, DaL] at h
    obtain ⟨v, vs, rfl, h1, h2⟩ := h
    obtain ⟨cs, rfl, h3⟩ := zas_refs (as := as) h2
    obtain ⟨a, xs, rfl, _⟩ := mem_dat.mp (show Da K S (.tuple ds) v from h1)
    exact ⟨(true, a) :: cs, rfl, by simp [h3]⟩
  | (false, ds) :: as, vs, h => by
    simp only [Zas.ds, List.map_cons, DaL] at h
    obtain ⟨v, vs, rfl, h1, h2⟩ := h
    obtain ⟨cs, rfl, h3⟩ := zas_refs (as := as) h2
    obtain ⟨a, xs, rfl, _⟩ := mem_da.mp (show Da K S (.list ds) v from h1)
    exact ⟨(false, a) :: cs, rfl, by simp [h3]⟩
theorem zas_at {as : Zas} {cs : Z.Src} {j : Nat} {a : Bool × List PyData} {c : Bool × Addr} (s : Same S H) (h : DaL K S as.ds (cs.map fun c => .ref c.2)) (hk : cs.map (·.1) = as.map (·.1)) (ha : as[j]? = some a) (hc : cs[j]? = some c) : ∃ xs, Z.SqC K H c xs ∧ DaL K S a.2 xs := by
  obtain ⟨v, e1, hv⟩ := h.get (i := j) (d := sq a.1 a.2) (by rw [List.getElem?_map, ha]; rfl)
  rw [List.getElem?_map, hc] at e1
  cases e1
  have e2 : c.1 = a.1 := by
    have := congrArg (fun l => l[j]?) hk
    simp only [List.getElem?_map, ha, hc, Option.map_some, Option.some.injEq] at this
    exact this
  obtain ⟨c1, c2⟩ := c
  obtain ⟨a1, a2⟩ := a
  dsimp only at e2
  subst e2
  unfold Z.SqC
  cases c1 with
  | true =>
    obtain ⟨p, xs, z, h1, h2⟩ := mem_dat.mp (show Da K S (.tuple a2) (.ref c2) from hv)
    cases z
    exact ⟨xs, same_t s h1, h2⟩
  | false =>
    obtain ⟨p, xs, z, h1, h2⟩ := mem_da.mp (show Da K S (.list a2) (.ref c2) from hv)
    cases z
    exact ⟨xs, SqL.of (s _ _ h1), h2⟩
theorem wk_zip {as : Zas} {cs : Z.Src} {L : List Z.ZE} {n : Nat} (hn : ∀ a ∈ as, a.2.length = n) (hk : cs.map (·.1) = as.map (·.1)) (hL : L.map (fun e => (e.c, e.l)) = cs) : Wk K e (Z.Izp K L n) ((as.ds.map Kd.dat).zip (cs.map fun c => .ref c.2)) (zipD as n) := by
  have hlen : as.ds.length = (cs.map fun c => V.ref c.2).length := by
    have := congrArg List.length hk
    simp only [List.length_map] at this ⊢
    exact this.symm
  have atL : ∀ {H S L0} (j : Nat) (x : Z.ZE), Os K e ((as.ds.map Kd.dat).zip (cs.map fun c => .ref c.2) ++ L0) H S → L[j]? = some x → ∃ a xs, as[j]? = some a ∧ Z.SqK K H x xs ∧ DaL K S a.2 xs := fun {H S L0} j x o hx => by
    have hd := Os.dats hlen o
    have hc : cs[j]? = some (x.c, x.l) := by rw [← hL, List.getElem?_map, hx]; rfl
    have hj := (List.getElem?_eq_some_iff.mp hc).1
    have hl : as.length = cs.length := by simpa using congrArg List.length hk.symm
    have ha : as[j]? = some as[j] := List.getElem?_eq_getElem (by omega)
    obtain ⟨xs, h1, h2⟩ := zas_at o.same hd hk ha hc
    exact ⟨_, xs, ha, h1, h2⟩
  have all : ∀ {H S L0}, Os K e ((as.ds.map Kd.dat).zip (cs.map fun c => .ref c.2) ++ L0) H S → ∀ x ∈ L, ∃ ys : List V, Z.SqK K H x ys ∧ ys.length = n := fun {H S L0} o x mx => by
    obtain ⟨j, hj⟩ := List.mem_iff_getElem?.mp mx
    obtain ⟨a, xs, h1, h2, h3⟩ := atL j x o hj
    exact ⟨xs, h2, by rw [h3.len]; exact hn a (List.mem_of_getElem? h1)⟩
  refine ⟨fun i H S L0 hi o => ⟨by rw [zipD_len] at hi; exact hi, all o⟩, fun H S L0 o => ⟨zipD_len.symm, all o⟩, fun i H S L0 x H' d hd o y => ?_⟩
  obtain ⟨hi, rfl⟩ := zipD_get hd
  obtain ⟨T, xs, rfl, hT, rfl, hxl, hx⟩ := y
  refine ⟨_, o.newTup hT ?_⟩
  -- the items
  have hd := Os.dats hlen o
  have hl : as.length = L.length := by
    have h1 : as.length = cs.length := by simpa using congrArg List.length hk.symm
    rw [h1, ← hL, List.length_map]
  have each : ∀ (j : Nat) (a : Bool × List PyData), as[j]? = some a → ∃ v, xs[j]? = some v ∧ Da K S (a.2.getD i .none) v := fun j a ha => by
    have hj := (List.getElem?_eq_some_iff.mp ha).1
    have hLj : L[j]? = some (L[j]'(by omega)) := List.getElem?_eq_getElem _
    obtain ⟨a', ys, h1, h2, h3⟩ := atL j _ o hLj
    rw [ha] at h1
    cases h1
    have h4 := hx j _ hLj ys h2
    have hlen2 : a.2.length = n := hn a (List.mem_of_getElem? ha)
    have h5 : a.2[i]? = some (a.2[i]'(by omega)) := List.getElem?_eq_getElem _
    obtain ⟨v, h6, h7⟩ := h3.get h5
    refine ⟨v, h4.trans h6, ?_⟩
    rw [List.getD_eq_getElem?_getD, h5]
    exact h7
  have g : ∀ (as : Zas) (xs : List V), xs.length = as.length → (∀ (j : Nat) (a : Bool × List PyData), as[j]? = some a → ∃ v, xs[j]? = some v ∧ Da K S (a.2.getD i .none) v) → DaL K S (as.map fun a => a.2.getD i .none) xs := by
    intro as
    induction as with
    | nil => intro xs hl _; cases xs with | nil => exact DaL.nil | cons _ _ => cases hl
    | cons a as ih =>
      intro xs hl h
      cases xs with
      | nil => cases hl
      | cons x xs =>
        obtain ⟨v, h1, h2⟩ := h 0 a rfl
        cases h1
        exact DaL.cons h2 (ih xs (by simpa using hl) fun j b hb => h (j + 1) b hb)
  exact g as xs (by omega) each
end
section
variable {X : Cx} {e : En} {ρ ρ1 ρ2 : Rho} {ea : Expr} {es elts : List Expr} {kk : Nat} {p pos tpos : Pos} {n : Nat}
theorem di_zip_of {as : Zas} {ex : Expr} (h : PI X (.Tuple elts kk tpos) ex (Z.iZp X.K n (tAr X.K e ρ ρ1 (pus as.ds)))) (hl : as.length = 2 ∨ as.length = 3) (hn : ∀ a ∈ as, a.2.length = n) : DI X e ρ (.Tuple elts kk tpos) ex ρ1 (zipD as n) :=
  PI.mono (pi_hb h) fun σ H R ⟨S, stk, c, o, q⟩ => ⟨S, stk, c, o, fun vs H1 S1 c1 ok o1 => by
    obtain ⟨e1, e2⟩ := pushed_pus ok
    rw [e1] at o1
    have hd := Os.dats e2 o1
    obtain ⟨cs, rfl, hk⟩ := zas_refs hd
    have hcl : cs.length = as.length := by simpa using congrArg List.length hk
    have each : ∀ c ∈ cs, ∃ ys, Z.SqC X.K H1 c ys ∧ ys.length = n := fun c mc => by
      obtain ⟨j, hj⟩ := List.mem_iff_getElem?.mp mc
      have hj2 := (List.getElem?_eq_some_iff.mp hj).1
      have ha : as[j]? = some (as[j]'(by omega)) := List.getElem?_eq_getElem _
      obtain ⟨xs, h1, h2⟩ := zas_at o1.same hd hk ha hj
      exact ⟨xs, h1, by rw [h2.len]; exact hn _ (List.mem_of_getElem? ha)⟩
    refine ⟨cs, rfl, by rw [hcl]; exact hl, each, fun L hL hb => q _ _ H1 S1 ?_ (wk_zip hn hk hL) c1 o1⟩
    rw [zipD_len]
    have h0 : 0 < cs.length := by rcases hl with h | h <;> omega
    obtain ⟨ys, h1, h2⟩ := each _ (List.getElem_mem h0)
    rw [← h2]
    unfold Z.SqC at h1
    split at h1
    · exact hb.2 _ _ h1
    · exact hb.1 _ _ h1⟩
theorem di_zip {as : Zas} (ha : DA X e ρ (ea :: es) ρ1 (pus as.ds)) (hl : as.length = 2 ∨ as.length = 3) (hn : ∀ a ∈ as, a.2.length = n) (hm : X.mg "zip" = none) (hg : Gl X "zip" := by rfl)
    (hs : starEach (ea :: es) X.env = (false, eval ea X.env) :: starEach es X.env := by rfl) (hpl : (backTo pos (starEach es X.env)).any (·.1) = false := by rfl) : DI X e ρ (.Tuple elts kk tpos) (.Call (.Name "zip" p) (ea :: es) [] pos) ρ1 (zipD as n) :=
  di_zip_of (Z.pi_zipN hm ha hg hs hpl) hl hn
theorem di_zipS {as : Zas} {j : Nat} {p2 p3 : Pos} (ha : DA X e ρ (ea :: es) ρ1 (pus as.ds)) (hl : as.length = 2 ∨ as.length = 3) (hn : ∀ a ∈ as, a.2.length = n) (hm : X.mg "zip" = none) (hg : Gl X "zip" := by rfl)
    (he : backTo pos (starEach (ea :: es) X.env) = (false, eval ea X.env) :: backTo pos (starEach es X.env) := by rfl) (hpl : (backTo pos (starEach (ea :: es) X.env)).any (·.1) = false := by rfl) : DI X e ρ (.Tuple elts kk tpos) (.Call (.Name "zip" p) (ea :: es) [⟨some "strict", .Constant (.bool true) j p2, p3⟩] pos) ρ1 (zipD as n) :=
  di_zip_of (Z.pi_zipS hm ha hg he hpl) hl hn
end
end Ov
set_option Elab.async false
set_option linter.all false
set_option maxRecDepth 100000
set_option maxHeartbeats 1000000
namespace Ov.Z
open PySem PySem.Spec PyProof.Rows L2
/-! ### list(zip(..)) -/
theorem noLen : typeLookup (.type "zip") "__len__" = pure none := by rw [typeLookup_type, builtinLookup_eq_fast]; kernel_rfl
theorem noHint : typeLookup (.type "zip") "__length_hint__" = pure none := by rw [typeLookup_type, builtinLookup_eq_fast]; kernel_rfl
/-- the list being filled at B, the tuples behind it -/
structure Lp (s0 h : Heap) (z TI TO S B : Addr) (st : Bool) (L : List ZE) (row : Nat → List Value) (k : Nat) : Prop where
  rec' : ∃ f0 f1, Rec h z TI TO st f0 f1 ∧ ((k = 0 ∧ f0 = .none) ∨ (0 < k ∧ f0 = rawInt B ∧ ∃ f : Bool, f1 = .bool f))
  ti : Tp h TI (L.map fun e => .ref e.it)
  to : ∃ vs : List Value, vs.length = L.length ∧ Tp h TO vs
  its : ∀ e ∈ L, e.At h k
  sqs : ∀ e ∈ L, e.Sq h
  lst : ∃ (acc : Array Value) (c : Nat), h.get? S = some { cls := .type "list", dict := none, data := .seq acc c, slots := #[] } ∧ acc.toList = (List.range k).map fun j => .ref (B + j)
  size : h.objs.size = B + k
  tups : ∀ j, j < k → Tp h (B + j) (row j)
  kept : ∀ c o, c ≠ z → c ≠ TO → c ≠ S → (∀ e ∈ L, c ≠ e.it) → s0.get? c = some o → h.get? c = some o
structure Far (z TI TO S : Addr) (L : List ZE) : Prop where
  z' : z < S
  ti' : TI < S
  to' : TO < S
  its' : ∀ e ∈ L, e.it < S
  ls' : ∀ e ∈ L, e.l < S
theorem Far.z {z TI TO S : Addr} {L : List ZE} (F : Far z TI TO S L) : z ≠ S := Nat.ne_of_lt F.z'
theorem Far.ti {z TI TO S : Addr} {L : List ZE} (F : Far z TI TO S L) : TI ≠ S := Nat.ne_of_lt F.ti'
theorem Far.to {z TI TO S : Addr} {L : List ZE} (F : Far z TI TO S L) : TO ≠ S := Nat.ne_of_lt F.to'
theorem Far.its {z TI TO S : Addr} {L : List ZE} (F : Far z TI TO S L) (e : ZE) (m : e ∈ L) : e.it ≠ S := Nat.ne_of_lt (F.its' e m)
theorem Far.ls {z TI TO S : Addr} {L : List ZE} (F : Far z TI TO S L) (e : ZE) (m : e ∈ L) : e.l ≠ S := Nat.ne_of_lt (F.ls' e m)
section
variable {prog : Program} {w : World} {A : Around} {E : Value → Shared → Prop} {s : Shared} {z TI TO S B : Addr} {st : Bool} {L : List ZE} {row : Nat → List Value} {n : Nat}
theorem Lp.next {s0 h h1 : Heap} {k : Nat} {f0 f1 : Value} {f : Bool} (D : Sep z TI TO L) (Fa : Far z TI TO S L) (hSB : S < B) (m : Lp s0 h z TI TO S B st L row k) (o : Out h h1 z TI TO st f0 f1 L k h.objs.size (row k)) (e0 : f0 = rawInt B) (e1 : f1 = .bool f)
    {acc : Array Value} {c : Nat} (hl : h1.get? S = some { cls := .type "list", dict := none, data := .seq acc c, slots := #[] }) (ha : acc.toList = (List.range k).map fun j => .ref (B + j)) : Lp s0 (h1.update S (Obj.mapSeq (·.push (.ref h.objs.size)))) z TI TO S B st L row (k + 1) := by
  have up : ∀ c o, c ≠ S → h1.get? c = some o → (h1.update S (Obj.mapSeq (·.push (.ref h.objs.size)))).get? c = some o := fun c o hc x => (Heap.get?_update_other _ _ (Ne.symm hc)).trans x
  have kp : ∀ c o, c ≠ z → c ≠ TO → (∀ e ∈ L, c ≠ e.it) → c ≠ S → h.get? c = some o → (h1.update S (Obj.mapSeq (·.push (.ref h.objs.size)))).get? c = some o := fun c ob a1 a2 a3 a4 x => up c ob a4 (o.kept c ob a1 a2 a3 x)
  obtain ⟨vs, hv, hv2⟩ := o.to
  refine ⟨⟨f0, f1, up _ _ Fa.z o.rec', .inr ⟨Nat.succ_pos _, e0, f, e1⟩⟩, ?_, ⟨vs, hv, up _ _ Fa.to hv2⟩, fun e me => (o.its e me).keep fun ob x => up _ ob (Fa.its e me) x, fun e me => ?_, ⟨acc.push (.ref h.objs.size), _, Heap.get?_update_self _ hl rfl, ?_⟩, ?_, fun j hj => ?_, fun c ob a1 a2 a3 a4 x => kp c ob a1 a2 a4 a3 (m.kept c ob a1 a2 a3 a4 x)⟩
  · exact kp TI _ D.zTI D.TT (fun e me => (D.iz e me).2.1.symm) Fa.ti m.ti
  · have q := m.sqs e me
    have nl := D.lz e me
    unfold ZE.Sq at q ⊢
    split
    · rename_i hc
      rw [if_pos hc] at q
      exact q.at fun ob x => kp _ ob nl.1 nl.2.1 nl.2.2 (Fa.ls e me) x
    · rename_i hc
      rw [if_neg hc] at q
      exact q.at fun ob x => kp _ ob nl.1 nl.2.1 nl.2.2 (Fa.ls e me) x
  · rw [Array.toList_push, ha, List.range_succ, List.map_append, m.size]
    rfl
  · rw [Heap.size_update, o.size, m.size]
    rfl
  · by_cases hjk : j = k
    · subst hjk
      have g : Tp h1 (B + j) (row j) := by
        rw [← m.size]
        exact o.new
      exact up _ _ (Ne.symm (ne_lt1 j hSB)) g
    · have hj2 : j < k := by omega
      have ne : ∀ c : Addr, c < S → B + j ≠ c := fun c hc => (ne_lt1 j (Nat.lt_trans hc hSB)).symm
      exact kp _ _ (ne z Fa.z') (ne TO Fa.to') (fun e me => ne _ (Fa.its' e me)) (ne_lt1 j hSB).symm (m.tups j hj2)
/-- the loop -/
theorem lp_run (hh : A.handled = none) (hne : L ≠ []) (hL : L.length ≤ 1000) (D : Sep z TI TO L) (Fa : Far z TI TO S L) (hSB : S < B) (hn : n ≤ sizeLine) (hrow : ∀ k, k < n → (row k).length = L.length ∧ ∀ (j : Nat) (e : ZE) (x : Value), L[j]? = some e → (row k)[j]? = some x → e.xs[k]? = some x) (hend : ∀ e ∈ L, e.xs[n]? = none) (res : Value) {R : Result → Shared → Prop}
    (hR : ∀ h' m, Lp s.heap m z TI TO S B st L row n → Fro m h' z TO L → R (.ok (.ret res)) { s with heap := h' }) :
    ∀ (m k : Nat) (h : Heap), m + k = n → Lp s.heap h z TI TO S B st L row k → codeAny (model prog w) A (.builtin "list.extend.loop" ⟨[.ref S, .ref z, res], []⟩) R { s with heap := h } := by
  have hh1 : A.in1.handled = none := hh
  intro m
  induction m with
  | zero =>
    intro k h hk lp
    have ek : k = n := by omega
    subst ek
    obtain ⟨f0, f1, hz, hf⟩ := lp.rec'
    obtain ⟨vs, _, hTO⟩ := lp.to
    refine codeAny_builtin F.entry_extend_loop ?_
    rw [Around.under_plainId F.plain_extend_loop _]
    show wpAny _ A.in1 (pyNext (.ref z) >>= _) _ _ { s with heap := h }
    refine wpAny_bind (pyNext_end (s := { s with heap := h }) hne hh1 D hz ?_ lp.ti hTO lp.its lp.sqs hend fun h' fr => wpAny_pure (hR h' h lp fr))
    rcases hf with ⟨_, hf⟩ | ⟨h0, hf, f, hf1⟩
    · exact .inl hf
    · exact .inr ⟨B, _, f, hf, hf1, lp.tups 0 h0⟩
  | succ m ih =>
    intro k h hk lp
    have hlt : k < n := by omega
    obtain ⟨f0, f1, hz, hf⟩ := lp.rec'
    obtain ⟨vs, hv, hTO⟩ := lp.to
    obtain ⟨acc, c, hS, hacc⟩ := lp.lst
    obtain ⟨r1, r2⟩ := hrow k hlt
    have szacc : acc.size = k := by rw [← Array.length_toList, hacc, List.length_map, List.length_range]
    refine codeAny_builtin F.entry_extend_loop ?_
    rw [Around.under_plainId F.plain_extend_loop _]
    show wpAny _ A.in1 (pyNext (.ref z) >>= _) _ _ { s with heap := h }
    have rest : ∀ (h1 : Heap) (f0 f1 : Value) (f : Bool), Out h h1 z TI TO st f0 f1 L k h.objs.size (row k) → f0 = rawInt B → f1 = .bool f →
        wpAny (model prog w) A.in1 (do Builtin.List.listUpdate (.ref S) (·.push (.ref h.objs.size)); again (.builtin "list.extend.loop" ⟨[.ref S, .ref z, res], []⟩)) (fun fin s' => match fin with | .done f => R (.ok f) s' | .again c' => c'.quiet = true ∧ codeAny (model prog w) A c' R s') (fun e s' => R (.error e) s') { s with heap := h1 } := fun h1 f0 f1 f o e0 e1 => by
      have hS1 := o.kept S _ Fa.z.symm Fa.to.symm (fun e me => (Fa.its e me).symm) hS
      refine wpAny_bind (show wpAny _ A.in1 (updateSeq S (·.push (.ref h.objs.size))) _ _ { s with heap := h1 } from ?_)
      exact wpAny_updateSeq (s := { s with heap := h1 }) hS1 rfl (hz := by omega) (_hz' := by rw [Array.size_push]; omega) (wpAny_pure ⟨plainId_quiet F.plain_extend_loop _, ih (k + 1) _ (by omega) (lp.next D Fa hSB o e0 e1 hS1 hacc)⟩)
    rcases hf with ⟨k0, rfl⟩ | ⟨h0, rfl, f, rfl⟩
    · subst k0
      refine wpAny_bind (pyNext_item (s := { s with heap := h }) (xs := row 0) hne D hz lp.ti hv hTO lp.its lp.sqs r1 r2 hL fun h1 o => ?_)
      have hb : h.objs.size = B := lp.size
      exact rest h1 _ _ false o (by rw [← hb]) rfl
    · refine wpAny_bind (pyNext_held (s := { s with heap := h }) (xs := row k) hne D hz (lp.tups 0 h0) lp.ti hv hTO lp.its lp.sqs r1 r2 hL fun h1 o => ?_)
      exact rest h1 _ _ true o rfl rfl
/-- list(z), z a zip not yet drawn from -/
theorem list_zip {Q : Value → Shared → Prop} {f1 : Value} {old : List Value} (hh : A.handled = none) (hne : L ≠ []) (hL : L.length ≤ 1000) (D : Sep z TI TO L) (hn : n ≤ sizeLine) (hrow : ∀ k, k < n → (row k).length = L.length ∧ ∀ (j : Nat) (e : ZE) (x : Value), L[j]? = some e → (row k)[j]? = some x → e.xs[k]? = some x) (hend : ∀ e ∈ L, e.xs[n]? = none)
    (hz : Rec s.heap z TI TO st .none f1) (hTI : Tp s.heap TI (L.map fun e => .ref e.it)) (hold : old.length = L.length) (hTO : Tp s.heap TO old) (ha : ∀ e ∈ L, e.At s.heap 0) (hs : ∀ e ∈ L, e.Sq s.heap)
    (hQ : ∀ (h' : Heap) (c : Nat), h'.get? s.heap.objs.size = some { cls := .type "list", dict := none, data := .seq ((List.range n).map fun j => Value.ref (s.heap.objs.size + 1 + j)).toArray c, slots := #[] } → (∀ j, j < n → Tp h' (s.heap.objs.size + 1 + j) (row j)) → Fro s.heap h' z TO L → Q (.ref s.heap.objs.size) { s with heap := h' }) : wpAny (model prog w) A (call (.type "list") [.ref z]) Q E s := by
  have Fa : Far z TI TO s.heap.objs.size L := ⟨Heap.lt_size hz, Heap.lt_size hTI, Heap.lt_size hTO, fun e me => (ha e me).lt, fun e me => by
    have q := hs e me
    unfold ZE.Sq at q
    split at q
    · obtain ⟨o, h1, _⟩ := q
      exact Heap.lt_size h1
    · obtain ⟨o, h1, _⟩ := q
      exact Heap.lt_size h1⟩
  have hSB : s.heap.objs.size < s.heap.objs.size + 1 := Nat.lt_succ_self _
  refine callType_codes (Q₁ := fun ob s1 => ob = .ref s.heap.objs.size ∧ s1 = { s with heap := s.heap.push { cls := .type "list", data := .seq #[] } }) F.called_list (F.typeCall_list_1 _) F.entry_list_init (code_list_new _ ⟨rfl, rfl⟩) fun ob s1 h1 => ?_
  obtain ⟨rfl, rfl⟩ := h1
  have hS : (s.heap.push { cls := .type "list", data := .seq #[] }).get? s.heap.objs.size = some { cls := .type "list", data := .seq #[] } := Heap.get?_push_size _ rfl
  refine ⟨⟨_, hS, rfl⟩, F.args_list_init_2 _ _, ?_⟩
  show wpAny _ _ (do
    let was ← Builtin.List.listItems (.ref s.heap.objs.size)
    Builtin.List.listUpdate (.ref s.heap.objs.size) (fun _ => #[])
    letGo was.toList.reverse
    Builtin.List.listExtendWith (.ref s.heap.objs.size) (.ref z) .none) _ _ { s with heap := s.heap.push { cls := .type "list", data := .seq #[] } }
  refine wpAny_bind ?_
  unfold Builtin.List.listItems
  refine wpAny_bind (wpAny_seqItems hS rfl (wpAny_pure (wpAny_bind (show wpAny _ _ (updateSeq s.heap.objs.size (fun _ => #[])) _ _ { s with heap := s.heap.push { cls := .type "list", data := .seq #[] } } from wpAny_updateSeq hS rfl (wpAny_bind (wpAny_letGo ?_))))))
  have hS2 := Heap.get?_update_self (Obj.mapSeq (fun _ => (#[] : Array Value))) hS rfl
  unfold Builtin.List.listExtendWith
  generalize hg : (s.heap.push { cls := .type "list", data := .seq #[] }).update s.heap.objs.size (Obj.mapSeq fun _ => (#[] : Array Value)) = g at hS2 ⊢
  have old2 : ∀ b o, s.heap.get? b = some o → g.get? b = some o := fun b o q => by
    rw [← hg]
    exact (Heap.get?_update_other _ _ (Nat.ne_of_gt (Heap.lt_size q))).trans (Heap.get?_push_of_some _ q)
  have szg : g.objs.size = s.heap.objs.size + 1 := by rw [← hg, Heap.size_update, Heap.size_push]
  have hT : Shared.TypeIs { s with heap := g } (.ref z) "zip" := ⟨_, old2 _ _ hz, rfl⟩
  refine wpAny_bind (wpAny_typeOf hT ?_)
  have h1 : Builtin.List.listSameRef (.ref s.heap.objs.size) (.ref z) = false := by simp [Builtin.List.listSameRef, Fa.z.symm]
  have h2 : (Value.type "zip" == Value.type "list") = false := by decide
  have h3 : (Value.type "zip" == Value.type "tuple") = false := by decide
  simp only [h1, h2, h3, Bool.or_false, Bool.false_eq_true, if_false]
  refine wpAny_bind (iter_self (s := { s with heap := g }) (old2 _ _ hz) (wpAny_bind (wpAny_holding ?_)))
  unfold Builtin.List.listLengthHint
  refine wpAny_bind (wpAny_specialOf hT noLen ?_)
  show wpAny _ _ (specialOf (Value.ref z) (Str.ofString "__length_hint__") >>= _) _ _ _
  refine wpAny_bind (wpAny_specialOf hT noHint (wpAny_pure ?_))
  show wpAny _ _ (rule "list.extend.makes-room" >>= fun _ => Builtin.List.listTouch (.ref s.heap.objs.size) >>= fun _ => again (.builtin "list.extend.loop" ⟨[.ref s.heap.objs.size, .ref z, .none], []⟩)) _ _ { s with heap := g }
  refine wpAny_bind (wpAny_rule (wpAny_bind ?_))
  show wpAny _ _ (updateSeq s.heap.objs.size (·.push .none) >>= fun _ => updateSeq s.heap.objs.size (·.pop)) _ _ { s with heap := g }
  refine wpAny_bind (wpAny_updateSeq (s := { s with heap := g }) hS2 rfl ?_)
  have hS3 := Heap.get?_update_self (Obj.mapSeq (·.push Value.none)) hS2 rfl
  refine wpAny_updateSeq (hz := by seq_fits) hS3 rfl ?_
  have hS4 := Heap.get?_update_self (Obj.mapSeq (·.pop)) hS3 rfl
  generalize hg2 : (g.update s.heap.objs.size (Obj.mapSeq (·.push Value.none))).update s.heap.objs.size (Obj.mapSeq (·.pop)) = u at hS4 ⊢
  have old4 : ∀ b o, b ≠ s.heap.objs.size → g.get? b = some o → u.get? b = some o := fun b o hb q => by
    rw [← hg2]
    exact (Heap.get?_update_other _ _ hb.symm).trans ((Heap.get?_update_other _ _ hb.symm).trans q)
  have old5 : ∀ b o, s.heap.get? b = some o → u.get? b = some o := fun b o q => old4 b o (Nat.ne_of_lt (Heap.lt_size q)) (old2 b o q)
  have szu : u.objs.size = s.heap.objs.size + 1 := by rw [← hg2, Heap.size_update, Heap.size_update, szg]
  have lp0 : Lp s.heap u z TI TO s.heap.objs.size (s.heap.objs.size + 1) st L row 0 := by
    refine ⟨⟨_, f1, old5 _ _ hz, .inl ⟨rfl, rfl⟩⟩, old5 _ _ hTI, ⟨old, hold, old5 _ _ hTO⟩, fun e me => (ha e me).keep fun o x => old5 _ o x, fun e me => ?_, ⟨_, _, hS4, rfl⟩, szu, fun j hj => absurd hj (Nat.not_lt_zero _), fun c o _ _ _ _ x => old5 c o x⟩
    have q := hs e me
    unfold ZE.Sq at q ⊢
    split
    · rename_i hc
      rw [if_pos hc] at q
      exact q.at fun o x => old5 _ o x
    · rename_i hc
      rw [if_neg hc] at q
      exact q.at fun o x => old5 _ o x
  refine wpAny_pure ⟨plainId_quiet F.plain_extend_loop _, lp_run (prog := prog) (w := w) (A := A.in1) (s := s) (n := n) (show A.in1.handled = none from hh) hne hL D Fa hSB hn hrow hend .none (fun h' m lp fr => ?_) n 0 u (Nat.add_zero n) lp0⟩
  obtain ⟨acc, c, e1, e2⟩ := lp.lst
  have e3 : acc = ((List.range n).map fun j => Value.ref (s.heap.objs.size + 1 + j)).toArray := by
    rw [← e2]
  refine ⟨rfl, hQ h' c ?_ (fun j hj => ?_) fun b o b1 b2 b3 q => ?_⟩
  · rw [← e3]
    exact fr _ _ Fa.z.symm Fa.to.symm (fun e me => (Fa.its e me).symm) e1
  · have ne : ∀ c : Addr, c < s.heap.objs.size → s.heap.objs.size + 1 + j ≠ c := fun c hc => (ne_lt1 j (Nat.lt_trans hc hSB)).symm
    exact fr _ _ (ne z Fa.z') (ne TO Fa.to') (fun e me => ne _ (Fa.its' e me)) (lp.tups j hj)
  · exact fr _ _ b1 b2 b3 (lp.kept b o b1 b2 (Nat.ne_of_lt (Heap.lt_size q)) b3 q)
end
end Ov.Z
set_option Elab.async false
set_option linter.all false
set_option maxRecDepth 100000
set_option maxHeartbeats 1000000
namespace Ov
open PySem PySem.Spec PyProof.Rows L2
/-! ### many new tuples -/
def laidT (H : Hp) (b : Nat) : List (List V) → Hp
  | [] => H
  | r :: rs => upd (laidT H (b + 1) rs) b (.tup r)
theorem laidT_lt {H : Hp} {c : Nat} : ∀ {rs : List (List V)} {b : Nat}, c < b → laidT H b rs c = H c
  | [], _, _ => rfl
  | r :: rs, b, h => by
    unfold laidT
    rw [upd_ne (Z.ne_of_nat (by omega)), laidT_lt (by omega)]
def refsAt (b n : Nat) : List V := (List.range n).map fun j => V.ref (b + j)
theorem refsAt_succ (b n : Nat) : refsAt b (n + 1) = .ref b :: refsAt (b + 1) n := by
  unfold refsAt
  rw [List.range_succ_eq_map, List.map_cons, List.map_map]
  congr 1
  apply List.map_congr_left
  intro j _
  show V.ref (b + (j + 1)) = V.ref (b + 1 + j)
  congr 1
  show (b + (j + 1) : Nat) = b + 1 + j
  omega
section
variable {X : Cx} {pins : List (Addr × Obj)} {σ : L2.St} {K : PySem.W.Frag} {e : En} {L : En2}
theorem Inv.lays {H : Hp} {s : Shared} (I : Inv X pins σ H s) : ∀ {rs : List (List V)} {b : Nat} {h' : Heap}, s.heap.objs.size ≤ b → (∀ c o, s.heap.get? c = some o → h'.get? c = some o) → (∀ (j : Nat) (r : List V), rs[j]? = some r → r.length ≤ sizeLine ∧ ∃ us, Vals r us ∧ IsTup h' (b + j) us.toArray) → Inv X pins σ (laidT H b rs) { s with heap := h' }
  | [], b, h', _, k, _ => I.kept (t' := s.toks) k
  | r :: rs, b, h', hb, k, ht => by
    obtain ⟨G, g1, g2⟩ := restrict h' fun c => decide (c ≠ (b : Addr))
    have gk : ∀ c o, c ≠ (b : Addr) → h'.get? c = some o → G.get? c = some o := fun c o hc q => by
      rw [g1 c (decide_eq_true hc)]
      exact q
    have gs : ∀ c o, G.get? c = some o → h'.get? c = some o := fun c o q => by
      by_cases hc : c = (b : Addr)
      · rw [hc, g2 b (decide_eq_false fun z => z rfl)] at q
        cases q
      · rw [g1 c (decide_eq_true hc)] at q
        exact q
    have I1 : Inv X pins σ (laidT H (b + 1) rs) { s with heap := G } := Inv.lays I (Nat.le_succ_of_le hb) (fun c o q => gk c o (Nat.ne_of_lt (Nat.lt_of_lt_of_le (Heap.lt_size q) hb)) (k c o q)) fun j r' hr => by
      obtain ⟨z1, us, z2, ob, z3, z4⟩ := ht (j + 1) r' hr
      have e1 : b + (j + 1) = b + 1 + j := by omega
      rw [e1] at z3
      exact ⟨z1, us, z2, ob, gk _ _ (Z.ne_of_nat (by omega)) z3, z4⟩
    obtain ⟨z1, us, z2, z3⟩ := ht 0 r rfl
    exact L2.Inv.laidN (s := { s with heap := G }) (t' := s.toks) I1 gs (g2 b (decide_eq_false fun z => z rfl)) (by rw [laidT_lt (Nat.lt_succ_self _)]; exact I.hok.fresh hb) ⟨z1, us, z2, z3⟩
theorem Os.lays {H S : Hp} (x : Os K e L H S) : ∀ {rs : List (List V)} {ds : List (List PyData)} {b : Nat}, (∀ c : Nat, b ≤ c → H c = none) → rs.length = ds.length → (∀ (j : Nat) (r : List V) (d : List PyData), rs[j]? = some r → ds[j]? = some d → DaL K S d r) → ∃ S', Same S S' ∧ Os K e L (laidT H b rs) S' ∧ DaL K S' (ds.map .tuple) (refsAt b rs.length)
  | [], [], b, _, _, _ => ⟨S, Same.refl S, x, DaL.nil⟩
  | r :: rs, d :: ds, b, hb, hl, hd => by
    obtain ⟨S1, e1, x1, d1⟩ := Os.lays x (rs := rs) (ds := ds) (b := b + 1) (fun c hc => hb c (by omega)) (by simpa using hl) fun j r' d' a c => hd (j + 1) r' d' a c
    have hp : laidT H (b + 1) rs b = none := by
      rw [laidT_lt (Nat.lt_succ_self _)]
      exact hb b (Nat.le_refl _)
    have x2 := x1.newS (o := .tup r) hp
    have e2 : Same S1 (upd S1 b (.tup r)) := same_upd (x1.freshS hp)
    refine ⟨_, e1.trans e2, x2, ?_⟩
    rw [List.length_cons, refsAt_succ]
    refine DaL.cons ?_ (d1.mono e2)
    simp only [Da]
    exact ⟨b, r, rfl, .inl (.inl upd_same), (hd 0 r d rfl rfl).mono (e1.trans e2)⟩
  | [], _ :: _, _, _, hl, _ => by simp at hl
  | _ :: _, [], _, _, hl, _ => by simp at hl
end
/-! ### list(zip(..)) -/
def kLz (K : PySem.W.Frag) (n : Nat) : List V → Hp → VK → Prop := fun vs H Q => ∃ cs : Z.Src, vs = cs.map (fun c => .ref c.2) ∧ (cs.length = 2 ∨ cs.length = 3) ∧ (∀ c ∈ cs, ∃ ys, Z.SqC K H c ys ∧ ys.length = n) ∧ n ≤ sizeLine ∧
  ∀ (a : Nat) (rs : List (List V)), (∀ c : Nat, a ≤ c → H c = none) → rs.length = n → (∀ (i : Nat) (r : List V), rs[i]? = some r → r.length = cs.length ∧ ∀ (j : Nat) (c : Bool × Addr), cs[j]? = some c → ∀ ys, Z.SqC K H c ys → r[j]? = ys[i]?) → Q (.ref a) (upd (laidT H (a + 1) rs) a (.lst (refsAt (a + 1) n)))
section
variable {X : Cx} {pins : List (Addr × Obj)} {σ : L2.St} {H : Hp} {s : Shared} {n : Nat}
theorem vals_refsAt (b : Nat) : ∀ n, Vals (refsAt b n) ((List.range n).map fun j => Value.ref (b + j)) := fun n => by
  unfold refsAt
  generalize List.range n = l
  induction l with
  | nil => exact .nil
  | cons x l ih => exact .cons rfl ih
theorem ez_list {st : Bool} {vs : List V} {us : List Value} {Q : VK} (hh : X.A.handled = none) (I : Inv X pins σ H s) (r : Vals vs us) (h : kLz X.K n vs H Q) : wpAny (model X.prog X.w) X.A (call (.type "zip") us (Z.kwz st)) (fun v s1 => wpAny (model X.prog X.w) X.A (call (.type "list") [v]) (EP X pins σ Q) X.xe s1) X.xe s := by
  obtain ⟨cs, rfl, hf, hq, hn, q⟩ := h
  rw [Z.refs_of r]
  have ex : ∀ c : Bool × Addr, ∃ p : List V × List Value, c ∈ cs → Z.SqC X.K H c p.1 ∧ p.1.length = n ∧ Vals p.1 p.2 ∧ (⟨c.2, c.1, p.2.toArray⟩ : Z.SE).Sq s.heap := fun c => by
    by_cases mc : c ∈ cs
    · obtain ⟨ys, hy, hl⟩ := hq c mc
      obtain ⟨us, h1, h, _⟩ := Z.sqk_at (e := ⟨0, c.2, c.1, #[]⟩) I hy
      exact ⟨(ys, us), fun _ => ⟨hy, hl, h1, h⟩⟩
    · exact ⟨([], []), fun x => absurd x mc⟩
  have ex2 : ∃ (Y : Bool × Addr → List V) (F : Bool × Addr → List Value), ∀ c ∈ cs, Z.SqC X.K H c (Y c) ∧ (Y c).length = n ∧ Vals (Y c) (F c) ∧ (⟨c.2, c.1, (F c).toArray⟩ : Z.SE).Sq s.heap := ⟨fun c => (Classical.choose (ex c)).1, fun c => (Classical.choose (ex c)).2, fun c => Classical.choose_spec (ex c)⟩
  obtain ⟨Y, F, hF⟩ := ex2
  have hlF : ∀ c ∈ cs, (F c).length = n := fun c mc => by rw [← (hF c mc).2.2.1.length, (hF c mc).2.1]
  have e0 : (cs.map fun c => Value.ref c.2) = (cs.map fun c => (⟨c.2, c.1, (F c).toArray⟩ : Z.SE)).map fun e => Value.ref e.l := by rw [List.map_map]; rfl
  have hl : (cs.map fun c => (⟨c.2, c.1, (F c).toArray⟩ : Z.SE)).length = cs.length := List.length_map ..
  have few : Z.few (cs.map fun c => (⟨c.2, c.1, (F c).toArray⟩ : Z.SE)) := by unfold Z.few; rw [hl]; exact hf
  rw [e0]
  refine Z.call_zipN few (fun e me => ?_) fun h1 hz hTI hTO ha hsz hk => ?_
  · obtain ⟨c, mc, rfl⟩ := List.mem_map.mp me
    exact (hF c mc).2.2.2
  · have D := Z.sep_mk (a := s.heap.objs.size) (es := cs.map fun c => (⟨c.2, c.1, (F c).toArray⟩ : Z.SE)) fun e me => by
      obtain ⟨c, mc, rfl⟩ := List.mem_map.mp me
      have h := (hF c mc).2.2.2
      unfold Z.SE.Sq at h
      split at h
      · obtain ⟨o, h1, _⟩ := h
        exact Heap.lt_size h1
      · obtain ⟨o, h1, _⟩ := h
        exact Heap.lt_size h1
    have I1 : Inv X pins σ H { s with heap := h1 } := I.kept (t' := s.toks) hk
    have mem : ∀ e ∈ Z.mkL s.heap.objs.size (cs.map fun c => (⟨c.2, c.1, (F c).toArray⟩ : Z.SE)), ∃ c ∈ cs, e.l = c.2 ∧ e.c = c.1 ∧ e.xs = (F c).toArray := fun e me => by
      obtain ⟨i, hi⟩ := List.mem_iff_getElem?.mp me
      rw [Z.mkL_get, List.getElem?_map] at hi
      cases hc : cs[i]? with
      | none => rw [hc] at hi; cases hi
      | some c =>
        rw [hc] at hi
        cases hi
        exact ⟨c, List.mem_of_getElem? hc, rfl, rfl, rfl⟩
    refine Z.list_zip (s := { s with heap := h1 }) (n := n) (row := fun i => cs.map fun c => (F c).getD i .none) hh few.ne (by rw [Z.mkL_len]; exact few.le) D hn (fun k hk => ⟨?_, fun j e x he hx => ?_⟩) (fun e me => ?_) hz hTI (by rw [List.length_map, Z.mkL_len]) hTO ha (fun e me => ?_) fun h2 c hS hT fr => ?_
    · rw [List.length_map, Z.mkL_len, hl]
    · rw [Z.mkL_get, List.getElem?_map] at he
      rw [List.getElem?_map] at hx
      cases hc : cs[j]? with
      | none => rw [hc] at he; cases he
      | some c =>
        rw [hc] at he hx
        cases he
        cases hx
        have := hlF c (List.mem_of_getElem? hc)
        show (F c).toArray[k]? = some ((F c).getD k .none)
        rw [List.getElem?_toArray, List.getD_eq_getElem?_getD, List.getElem?_eq_getElem (by omega)]
        rfl
    · obtain ⟨c, mc, _, _, e3⟩ := mem e me
      rw [e3, List.getElem?_toArray, List.getElem?_eq_none (by rw [hlF c mc]; exact Nat.le_refl _)]
    · obtain ⟨c, mc, e1, e2, e3⟩ := mem e me
      have := (hF c mc).2.2.2.keep hk
      unfold Z.SE.Sq at this
      unfold Z.ZE.Sq
      rw [e1, e2, e3]
      exact this
    · have kk : ∀ b o, s.heap.get? b = some o → h2.get? b = some o := fun b o x => by
        have hb := Heap.lt_size x
        refine fr b o (Z.ne_lt2 _ _ hb) (Z.ne_lt2 _ _ hb) (fun e me => ?_) (hk b o x)
        obtain ⟨i, _, _, _, e1, _⟩ := Z.mem_mkL me
        rw [e1]
        exact Z.ne_lt1 _ hb
      have hsz2 : ({ s with heap := h1 } : Shared).heap.objs.size = s.heap.objs.size + cs.length + 3 := by rw [← hl]; exact hsz
      have kk2 : ∀ b o, s.heap.get? b = some o → h2.get? b = some o := kk
      generalize ha0 : ({ s with heap := h1 } : Shared).heap.objs.size = a0 at *
      have hle : s.heap.objs.size ≤ a0 := by rw [hsz2]; omega
      obtain ⟨G, g1, g2⟩ := restrict h2 fun c => decide (c ≠ (a0 : Addr))
      have gk : ∀ c o, c ≠ (a0 : Addr) → h2.get? c = some o → G.get? c = some o := fun c o hc q => by
        rw [g1 c (decide_eq_true hc)]
        exact q
      have gs : ∀ c o, G.get? c = some o → h2.get? c = some o := fun c o q => by
        by_cases hc : c = (a0 : Addr)
        · rw [hc, g2 a0 (decide_eq_false fun z => z rfl)] at q
          cases q
        · rw [g1 c (decide_eq_true hc)] at q
          exact q
      have rvs : ∀ i, i < n → Vals (cs.map fun c => (Y c).getD i .non) (cs.map fun c => (F c).getD i .none) := fun i hi => by
        have g : ∀ l : Z.Src, (∀ c ∈ l, c ∈ cs) → Vals (l.map fun c => (Y c).getD i .non) (l.map fun c => (F c).getD i .none) := by
          intro l
          induction l with
          | nil => intro _; exact .nil
          | cons c l ih =>
            intro hm
            have mc := hm c List.mem_cons_self
            refine .cons ?_ (ih fun x mx => hm x (List.mem_cons_of_mem _ mx))
            obtain ⟨_, y1, y2, _⟩ := hF c mc
            have h3 : (Y c)[i]? = some ((Y c)[i]'(by omega)) := List.getElem?_eq_getElem _
            obtain ⟨u, h4, h5⟩ := y2.get h3
            show RelV ((Y c).getD i .non) ((F c).getD i .none)
            rw [List.getD_eq_getElem?_getD, List.getD_eq_getElem?_getD, h3, h4]
            exact h5
        exact g cs fun c m => m
      have I2 : Inv X pins σ (laidT H (a0 + 1) ((List.range n).map fun i => cs.map fun c => (Y c).getD i .non)) { s with heap := G } := by
        refine Inv.lays I (Nat.le_succ_of_le hle) (fun c o q => gk c o (Nat.ne_of_lt (Nat.lt_of_lt_of_le (Heap.lt_size q) hle)) (kk c o q)) fun j r hr => ?_
        rw [List.getElem?_map] at hr
        by_cases hj : j < n
        · rw [List.getElem?_range hj] at hr
          cases hr
          refine ⟨?_, _, rvs j hj, _, gk _ _ (Z.ne_lt1 _ (Nat.lt_succ_self _)).symm (hT j hj), rfl, _, rfl⟩
          rw [List.length_map, sizeLine_eq]
          rcases hf with h | h <;> omega
        · rw [List.getElem?_eq_none (by rw [List.length_range]; omega)] at hr
          cases hr
      have I3 := L2.Inv.laidN (s := { s with heap := G }) (t' := s.toks) (o := .lst (refsAt (a0 + 1) n)) I2 gs (g2 a0 (decide_eq_false fun z => z rfl)) (by rw [laidT_lt (Nat.lt_succ_self _)]; exact I.hok.fresh hle) ⟨by unfold refsAt; rw [List.length_map, List.length_range]; exact hn, _, _, vals_refsAt _ _, hS⟩
      refine ⟨.ref a0, _, I3, rfl, q a0 _ (fun c hc => I.hok.fresh (Nat.le_trans hle hc)) (by rw [List.length_map, List.length_range]) fun i r hr => ?_⟩
      rw [List.getElem?_map] at hr
      by_cases hi : i < n
      · rw [List.getElem?_range hi] at hr
        cases hr
        refine ⟨List.length_map .., fun j c hc ys hys => ?_⟩
        have mc := List.mem_of_getElem? hc
        have e1 : ys = Y c := Z.sqk_inj (e := ⟨0, c.2, c.1, #[]⟩) I hys (hF c mc).1
        rw [e1, List.getElem?_map, hc]
        have := (hF c mc).2.1
        rw [List.getElem?_eq_getElem (by omega)]
        show some ((Y c).getD i .non) = _
        rw [List.getD_eq_getElem?_getD, List.getElem?_eq_getElem (by omega)]
        rfl
      · rw [List.getElem?_eq_none (by rw [List.length_range]; omega)] at hr
        cases hr
end
def tLz (K : PySem.W.Frag) (n : Nat) (ta : TA) : TE := fun σ H Q => ta σ H fun vs H1 => kLz K n vs H1 Q
section
variable {X : Cx} {e : En} {ρ ρ1 : Rho} {n : Nat} {ea : Expr} {es : List Expr} {ta : TA} {p p1 pos pos1 : Pos}
theorem pe_listZip (hc : X.calm = true) (hml : X.mg "list" = none) (hm : X.mg "zip" = none) (ha : PA X (ea :: es) ta) (hgl : Gl X "list" := by rfl) (hg : Gl X "zip" := by rfl)
    (hs : starEach (ea :: es) X.env = (false, eval ea X.env) :: starEach es X.env := by rfl) (hpl : (backTo pos1 (starEach es X.env)).any (·.1) = false := by rfl)
    (hs1 : starEach [Expr.Call (.Name "zip" p1) (ea :: es) [] pos1] X.env = (false, eval (.Call (.Name "zip" p1) (ea :: es) [] pos1) X.env) :: starEach [] X.env := by rfl) :
    PE X (.Call (.Name "list" p) [.Call (.Name "zip" p1) (ea :: es) [] pos1] [] pos) (tLz X.K n ta) :=
  ⟨fun pins s σ H Q I h => Call_ (ld_blt I hgl hml boot_list (PyProof.Rows.callWith_type1 (args_cons (Call_ (ld_blt I hg hm PyProof.Rows.boot_zip (PyProof.Rows.callWith_type1 (thn (ha.run pos1 pins s σ H _ I h) fun us s1 ⟨vs, H1, I1, r1, q⟩ => wpAny_mono (ez_list (st := false) (I1.ok.hd hc) I1 r1 q) (fun v s2 z => args_nil z) fun _ _ z => z) hs hpl))) hs1) hs1 (by rfl)))⟩
theorem pe_listZipS {j : Nat} {p2 p3 : Pos} (hc : X.calm = true) (hml : X.mg "list" = none) (hm : X.mg "zip" = none) (ha : PA X (ea :: es) ta) (hgl : Gl X "list" := by rfl) (hg : Gl X "zip" := by rfl)
    (he : backTo pos1 (starEach (ea :: es) X.env) = (false, eval ea X.env) :: backTo pos1 (starEach es X.env) := by rfl) (hpl : (backTo pos1 (starEach (ea :: es) X.env)).any (·.1) = false := by rfl)
    (hs1 : starEach [Expr.Call (.Name "zip" p1) (ea :: es) [⟨some "strict", .Constant (.bool true) j p2, p3⟩] pos1] X.env = (false, eval (.Call (.Name "zip" p1) (ea :: es) [⟨some "strict", .Constant (.bool true) j p2, p3⟩] pos1) X.env) :: starEach [] X.env := by rfl) :
    PE X (.Call (.Name "list" p) [.Call (.Name "zip" p1) (ea :: es) [⟨some "strict", .Constant (.bool true) j p2, p3⟩] pos1] [] pos) (tLz X.K n ta) :=
  ⟨fun pins s σ H Q I h => by
    refine Call_ (ld_blt I hgl hml boot_list (PyProof.Rows.callWith_type1 (args_cons (wpAny_Call_Name_kw (ld_blt I hg hm PyProof.Rows.boot_zip (Z.tyKw hpl (by rfl) ?_))) hs1) hs1 (by rfl)))
    have main := ha.run pos1 pins s σ H _ I h
    rw [he] at main ⊢
    refine evalArgs_kwB (by rfl) (thn main fun us s1 ⟨vs, H1, I1, r1, q⟩ => kws_cons ?_)
    refine thn ((pe_bl (X := X) (b := true)).run pins s1 σ H1 (fun v H2 => v = .bl true ∧ H2 = H1) I1 ⟨rfl, rfl⟩) fun v s2 ⟨x, H2, I2, r2, e2, e3⟩ => kws_nil ?_
    subst e2 e3
    cases r2
    exact wpAny_mono (ez_list (st := true) (I2.ok.hd hc) I2 r1 q) (fun v s2 z => args_nil z) fun _ _ z => z⟩
theorem dx_lz_of {as : Zas} {ex : Expr} (h : PE X ex (tLz X.K n (tAr X.K e ρ ρ1 (pus as.ds)))) (hl : as.length = 2 ∨ as.length = 3) (hn : ∀ a ∈ as, a.2.length = n) (hz : n ≤ sizeLine) : DX X e ρ ex ρ1 (.ml (zipD as n)) :=
  PE.mono h fun σ H Q ⟨S, stk, c, o, q⟩ => ⟨S, stk, c, o, fun vs H1 S1 c1 ok o1 => by
    obtain ⟨e1, e2⟩ := pushed_pus ok
    rw [e1] at o1
    have hd := Os.dats e2 o1
    have o2 := o1.drops
    obtain ⟨cs, rfl, hk⟩ := zas_refs hd
    have hcl : cs.length = as.length := by simpa using congrArg List.length hk
    refine ⟨cs, rfl, by rw [hcl]; exact hl, fun c mc => ?_, hz, fun a rs hfr hrl hr => ?_⟩
    · obtain ⟨j, hj⟩ := List.mem_iff_getElem?.mp mc
      have hj2 := (List.getElem?_eq_some_iff.mp hj).1
      have ha : as[j]? = some (as[j]'(by omega)) := List.getElem?_eq_getElem _
      obtain ⟨xs, h1, h2⟩ := zas_at o1.same hd hk ha hj
      exact ⟨xs, h1, by rw [h2.len]; exact hn _ (List.mem_of_getElem? ha)⟩
    · have rows : ∀ (i : Nat) (r : List V) (d : List PyData), rs[i]? = some r → ((List.range n).map fun i => as.map fun a => a.2.getD i .none)[i]? = some d → DaL X.K S1 d r := fun i r d h1 h2 => by
        have hi : i < n := by rw [← hrl]; exact (List.getElem?_eq_some_iff.mp h1).1
        rw [List.getElem?_map, List.getElem?_range hi] at h2
        cases h2
        obtain ⟨h3, h4⟩ := hr i r h1
        have each : ∀ (j : Nat) (a : Bool × List PyData), as[j]? = some a → ∃ v, r[j]? = some v ∧ Da X.K S1 (a.2.getD i .none) v := fun j a ha => by
          have hj := (List.getElem?_eq_some_iff.mp ha).1
          have hc : cs[j]? = some (cs[j]'(by omega)) := List.getElem?_eq_getElem _
          obtain ⟨xs, h5, h6⟩ := zas_at o1.same hd hk ha hc
          have hlen2 : a.2.length = n := hn a (List.mem_of_getElem? ha)
          have h7 : a.2[i]? = some (a.2[i]'(by omega)) := List.getElem?_eq_getElem _
          obtain ⟨v, h8, h9⟩ := h6.get h7
          refine ⟨v, (h4 j _ hc xs h5).trans h8, ?_⟩
          rw [List.getD_eq_getElem?_getD, h7]
          exact h9
        have g : ∀ (as : Zas) (xs : List V), xs.length = as.length → (∀ (j : Nat) (a : Bool × List PyData), as[j]? = some a → ∃ v, xs[j]? = some v ∧ Da X.K S1 (a.2.getD i .none) v) → DaL X.K S1 (as.map fun a => a.2.getD i .none) xs := by
          intro as
          induction as with
          | nil => intro xs hl _; cases xs with | nil => exact DaL.nil | cons _ _ => cases hl
          | cons a as ih =>
            intro xs hl h
            cases xs with
            | nil => cases hl
            | cons x xs =>
              obtain ⟨v, h1, h2⟩ := h 0 a rfl
              cases h1
              exact DaL.cons h2 (ih xs (by simpa using hl) fun j b hb => h (j + 1) b hb)
        exact g as r (by omega) each
      obtain ⟨S2, _, o3, d3⟩ := Os.lays o2 (rs := rs) (ds := (List.range n).map fun i => as.map fun a => a.2.getD i .none) (b := a + 1) (fun c hc => hfr c (by omega)) (by rw [hrl, List.length_map, List.length_range]) rows
      rw [hrl] at d3
      refine q _ _ S2 c1 (o3.newO (by rw [laidT_lt (Nat.lt_succ_self _)]; exact hfr a (Nat.le_refl _)) (fun xs z => by cases z) ?_)
      simp only [Ho]
      refine ⟨a, _, rfl, rfl, upd_same, ?_⟩
      unfold zipD
      rw [List.map_map] at d3
      exact d3⟩
theorem dx_listZip {as : Zas} (hc : X.calm = true) (hml : X.mg "list" = none) (hm : X.mg "zip" = none) (ha : DA X e ρ (ea :: es) ρ1 (pus as.ds)) (hl : as.length = 2 ∨ as.length = 3) (hn : ∀ a ∈ as, a.2.length = n) (hz : n ≤ sizeLine) (hgl : Gl X "list" := by rfl) (hg : Gl X "zip" := by rfl)
    (hs : starEach (ea :: es) X.env = (false, eval ea X.env) :: starEach es X.env := by rfl) (hpl : (backTo pos1 (starEach es X.env)).any (·.1) = false := by rfl)
    (hs1 : starEach [Expr.Call (.Name "zip" p1) (ea :: es) [] pos1] X.env = (false, eval (.Call (.Name "zip" p1) (ea :: es) [] pos1) X.env) :: starEach [] X.env := by rfl) :
    DX X e ρ (.Call (.Name "list" p) [.Call (.Name "zip" p1) (ea :: es) [] pos1] [] pos) ρ1 (.ml (zipD as n)) := dx_lz_of (pe_listZip hc hml hm ha hgl hg hs hpl hs1) hl hn hz
theorem dx_listZipS {as : Zas} {j : Nat} {p2 p3 : Pos} (hc : X.calm = true) (hml : X.mg "list" = none) (hm : X.mg "zip" = none) (ha : DA X e ρ (ea :: es) ρ1 (pus as.ds)) (hl : as.length = 2 ∨ as.length = 3) (hn : ∀ a ∈ as, a.2.length = n) (hz : n ≤ sizeLine) (hgl : Gl X "list" := by rfl) (hg : Gl X "zip" := by rfl)
    (he : backTo pos1 (starEach (ea :: es) X.env) = (false, eval ea X.env) :: backTo pos1 (starEach es X.env) := by rfl) (hpl : (backTo pos1 (starEach (ea :: es) X.env)).any (·.1) = false := by rfl)
    (hs1 : starEach [Expr.Call (.Name "zip" p1) (ea :: es) [⟨some "strict", .Constant (.bool true) j p2, p3⟩] pos1] X.env = (false, eval (.Call (.Name "zip" p1) (ea :: es) [⟨some "strict", .Constant (.bool true) j p2, p3⟩] pos1) X.env) :: starEach [] X.env := by rfl) :
    DX X e ρ (.Call (.Name "list" p) [.Call (.Name "zip" p1) (ea :: es) [⟨some "strict", .Constant (.bool true) j p2, p3⟩] pos1] [] pos) ρ1 (.ml (zipD as n)) := dx_lz_of (pe_listZipS hc hml hm ha hgl hg he hpl hs1) hl hn hz
end
end Ov
set_option Elab.async false
set_option linter.all false
set_option maxRecDepth 100000
set_option maxHeartbeats 1000000
namespace Ov
open PySem PySem.Spec PyProof.Rows L2
theorem fm_congr {α β : Type} {f g : α → Option β} : ∀ {l : List α}, (∀ a ∈ l, f a = g a) → l.filterMap f = l.filterMap g
  | [], _ => rfl
  | a :: l, h => by
    rw [List.filterMap_cons, List.filterMap_cons, h a List.mem_cons_self, fm_congr fun b m => h b (List.mem_cons_of_mem _ m)]
/-! ### t[::-1] -/
section
variable {prog : Program} {w : World} {A : Around} {E : Value → Shared → Prop} {s : Shared}
theorem part_neg {v : Value} (p : IsPart v (some (-1))) {Q : Option Int → Shared → Prop} (h : Q (some (-1)) s) : wpAny (model prog w) A (Builtin.Slice.slicePartIndex v) Q E s := HT.slicePart_ p h
theorem tup_rev {t sl : Addr} {items : Array Value} {vl vu vs : Value} {Q : Value → Shared → Prop} (ht : IsTup s.heap t items) (hs : s.heap.IsSliceOf sl vl vu vs) (pl : IsPart vl none) (pu : IsPart vu none) (ps : IsPart vs (some (-1)))
    (h : Q (.ref s.heap.objs.size) { s with heap := s.heap.push { cls := .type "tuple", data := .seq items.toList.reverse.toArray } }) (hsz : items.size ≤ sizeLine) : wpAny (model prog w) A (getItem (.ref t) (.ref sl)) Q E s := by
  obtain ⟨os, hos, hcs, hds⟩ := id hs
  have hTs : s.TypeIs (.ref sl) "slice" := ⟨os, hos, hcs⟩
  unfold getItem
  try with_reducible refine wpAny_holding ?_
  first | refine wpAny_bind (wpAny_pure ?_) | skip
  refine wpAny_bind (wpAny_sequenceKey ht.typeIs (by decide) ?_)
  refine wpAny_bind (wpAny_callSpecial?_slot (name := Str.ofString "__getitem__") ht.typeIs PyProof.Rows.slot_tuple_getitem (wpAny_call_entry PyProof.Rows.slot_tuple_getitem ht.typeIs entry_tuple_getitem ?_ (args_tuple_getitem _ _)))
  show wpAny _ _ (Builtin.Tuple.tupleItemsOf (.ref t) >>= _) _ _ s
  refine wpAny_bind (tupleItemsOf_ ht (wpAny_bind (wpAny_typeOf hTs ?_)))
  rw [if_pos (by decide)]
  have app : ∀ {R : Int × Int × Nat → Shared → Prop}, R ((items.size : Int) - 1, -1, items.size) s → wpAny (model prog w) A.in1 (Builtin.Slice.sliceApplied (.ref sl) (pure (items.size : Int))) R E s := fun {R} r => by
    unfold Builtin.Slice.sliceApplied Builtin.Slice.sliceFields
    refine wpAny_bind (wpAny_bind (wpAny_field hos hds (x := vl) rfl (wpAny_bind (wpAny_field hos hds (x := vu) rfl (wpAny_bind (wpAny_field hos hds (x := vs) rfl (wpAny_pure ?_)))))))
    refine wpAny_bind (part_neg ps ?_)
    show wpAny _ _ (if ((-1 : Int) == 0) = true then _ else _) _ _ s
    rw [if_neg (by decide)]
    refine wpAny_bind (HT.slicePart_ pl (wpAny_bind (HT.slicePart_ pu (wpAny_bind (wpAny_pure ?_)))))
    show wpAny _ _ (match Builtin.Slice.sliceAdjust none none (-1) (items.size : Int) with | (lo, hi) => pure (lo, (-1 : Int), Builtin.Slice.slicePlaces lo hi (-1))) _ _ s
    have e1 : Builtin.Slice.sliceAdjust none none (-1) (items.size : Int) = ((items.size : Int) - 1, -1) := by
      unfold Builtin.Slice.sliceAdjust
      simp
    rw [e1]
    have e2 : Builtin.Slice.slicePlaces ((items.size : Int) - 1) (-1) (-1) = items.size := by
      unfold Builtin.Slice.slicePlaces
      rw [if_neg (by decide)]
      by_cases h : (items.size : Int) - 1 > -1
      · rw [if_pos h]
        have e : ((items.size : Int) - 1 - -1 - 1) / (- -1) + 1 = (items.size : Int) := by
          rw [show (- -1 : Int) = 1 by decide, Int.ediv_one]
          omega
        rw [e, Int.toNat_natCast]
      · rw [if_neg h]
        omega
    show wpAny _ _ (pure ((items.size : Int) - 1, (-1 : Int), Builtin.Slice.slicePlaces ((items.size : Int) - 1) (-1) (-1))) _ _ s
    rw [e2]
    exact wpAny_pure r
  refine wpAny_bind (app ?_)
  show wpAny _ _ (if (((items.size : Int) - 1) == 0 && (-1 : Int) == 1 && items.size == items.size) = true then _ else _) _ _ s
  rw [if_neg (by simp)]
  have e3 : ((List.range items.size).filterMap fun (k : Nat) => items[((items.size : Int) - 1 + (k : Int) * -1).toNat]?).toArray = items.toList.reverse.toArray := by
    congr 1
    have h1 : ((List.range items.size).filterMap fun (k : Nat) => items[((items.size : Int) - 1 + (k : Int) * -1).toNat]?) = ((List.range items.size).map fun k => items.size - 1 - k).filterMap (items[·]?) := by
      rw [List.filterMap_map]
      refine fm_congr fun k hk => ?_
      have := List.mem_range.mp hk
      show items[((items.size : Int) - 1 + (k : Int) * -1).toNat]? = items[items.size - 1 - k]?
      congr 1
      omega
    rw [h1, PySem.W.krv_range, List.filterMap_reverse, PySem.W.krv_all]
  rw [e3]
  have hsz2 : sizeOk (.seq items.toList.reverse.toArray) := by
    show items.toList.reverse.toArray.size ≤ sizeLine
    rw [List.size_toArray, List.length_reverse, Array.length_toList]
    exact hsz
  exact wpAny_bind (m := Builtin.Tuple.tupleExact _) (wpAny_newObj_type (wpAny_pure ⟨_, rfl, wpAny_pure h⟩) hsz2)
end
section
variable {X : Cx} {e : En} {ρ ρ1 ρ2 : Rho} {ea eb ex : Expr} {pos p : Pos} {k : Kd}
def tRevT (K : PySem.W.Frag) (te : TE) : TE := fun σ H Q => te σ H fun x H1 => ∃ a xs, x = .ref a ∧ SqT K H1 a xs ∧ ∀ p, H1 p = none → Q (.ref p) (upd H1 p (.tup xs.reverse))
theorem pe_revT {ex : Expr} {te : TE} {k : Nat} {p1 p2 p3 pos : Pos} (he : PE X ex te) : PE X (.Subscript ex (.Slice none none (some (.UnaryOp .USub (.Constant (.int 1) k p1) p2)) p3) pos) (tRevT X.K te) := by
  refine ⟨fun pins s σ H Q I h => Subscript_ (thn (he.run pins s σ H _ I h) fun v s1 ⟨x, H1, I1, r1, a, xs, ex, hx, q⟩ => ?_)⟩
  subst ex
  cases r1
  have hst : PO X (some (.UnaryOp .USub (.Constant (.int 1) k p1) p2)) (tPart (tUn (rU fun i => .int (-i)) (tC (.int 1)))) := po_some (pe_un un_neg pe_int)
  refine wpAny_Slice (thn (po_none.run pins s1 σ H1 (fun o H2 => o = none ∧ H2 = H1) I1 ⟨rfl, rfl⟩) fun vl s2 ⟨l, H2, I2, pl, el, e2⟩ => thn (po_none.run pins s2 σ H2 (fun o H3 => o = none ∧ H3 = H2) I2 ⟨rfl, rfl⟩) fun vu s3 ⟨u, H3, I3, pu, eu, e3⟩ => thn (hst.run pins s3 σ H3 (fun o H4 => o = some (-1) ∧ H4 = H3) I3 ⟨1, rfl, -1, rfl, rfl, rfl⟩) fun vs s4 ⟨o, H4, I4, ps, eo, e4⟩ => ?_)
  subst el e2 eu e3 eo e4
  have I5 : Inv X pins σ H4 { s4 with heap := s4.heap.push { cls := .type "slice", data := .fields #[vl, vu, vs] } } := I4.kept (t' := s4.toks) fun b ob q => Heap.get?_push_of_some _ q
  obtain ⟨its, r, ht, hz⟩ := I5.tuple hx
  have hlen := r.length
  show wpAny (model X.prog X.w) X.A (subscriptTail ex (.Slice none none (some (.UnaryOp .USub (.Constant (.int 1) k p1) p2)) p3) (.ref a) (.ref s4.heap.objs.size)) (EP X pins σ Q) X.xe { s4 with heap := s4.heap.push { cls := .type "slice", data := .fields #[vl, vu, vs] } }
  refine tail_any (ops := [.ref a, .ref s4.heap.objs.size]) ht.typeIs (PyProof.Rows.slot_tuple_getitem.lookup) ?_ (by with_unfolding_all rfl)
  refine tup_rev ht (Heap.IsSliceOf.new _ vl vu vs) pl pu ps ?_ (by rw [List.size_toArray]; omega)
  refine ⟨.ref _, _, I5.laid (t' := s4.toks) (o := .tup xs.reverse) (fun b ob q => Heap.get?_push_of_some _ q) (Nat.le_refl _) ⟨by rw [List.length_reverse]; exact hz, _, r.reverse, _, Heap.get?_push_size _ rfl, rfl, _, rfl⟩, rfl, q _ (I5.hok.fresh (Nat.le_refl _))⟩
theorem dx_revL {ds : List PyData} {j : Nat} {p1 p2 p3 : Pos} (h : DX X e ρ ex ρ1 (.dat (.list ds))) : DX X e ρ (.Subscript ex (.Slice none none (some (.UnaryOp .USub (.Constant (.int 1) j p1) p2)) p3) pos) ρ1 (.ml ds.reverse) :=
  PE.mono (pe_revL h) fun σ H Q ⟨S, stk, c, o, q⟩ => ⟨S, stk, c, o, fun x H1 S1 c1 o1 => by
    obtain ⟨a, xs, rfl, e2, hd⟩ := mem_da.mp o1.dat
    refine ⟨a, xs, rfl, SqL.of (o1.same _ _ e2), fun p hp => q _ _ _ c1 (o1.drop.newO hp (fun xs z => by cases z) ?_)⟩
    simp only [Ho]
    exact ⟨p, _, rfl, rfl, upd_same, hd.reverse⟩⟩
theorem dx_revT {ds : List PyData} {j : Nat} {p1 p2 p3 : Pos} (h : DX X e ρ ex ρ1 (.dat (.tuple ds))) : DX X e ρ (.Subscript ex (.Slice none none (some (.UnaryOp .USub (.Constant (.int 1) j p1) p2)) p3) pos) ρ1 (.dat (.tuple ds.reverse)) :=
  PE.mono (pe_revT h) fun σ H Q ⟨S, stk, c, o, q⟩ => ⟨S, stk, c, o, fun x H1 S1 c1 o1 => by
    obtain ⟨a, xs, rfl, e2, hd⟩ := mem_dat.mp o1.dat
    exact ⟨a, xs, rfl, same_t o1.same e2, fun p hp => q _ _ _ c1 (o1.drop.newTup hp hd.reverse)⟩⟩
/-! ### list(x), tuple(x) -/
theorem dx_listOf {c : Bool} {ds : List PyData} (h : DX X e ρ ea ρ1 (.dat (sq c ds))) (hm : X.mg "list" = none) (hg : Gl X "list" := by rfl) (he : starEach [ea] X.env = (false, eval ea X.env) :: starEach [] X.env := by rfl) : DX X e ρ (.Call (.Name "list" p) [ea] [] pos) ρ1 (.ml ds) :=
  dx_Ty (ds := [sq c ds]) call_list_of (fun e L H S vs Q o h q => by
    simp only [DaL] at h
    obtain ⟨v, _, rfl, h, rfl⟩ := h
    obtain ⟨a, xs, rfl, h1, hd⟩ := in_seq (H := H) o.same h
    refine ⟨a, xs, rfl, h1, fun l hl => q _ _ S (o.newO hl (fun xs z => by cases z) ?_)⟩
    simp only [Ho]
    exact ⟨l, _, rfl, rfl, upd_same, hd⟩) hm (by decide +kernel) (da_cons h da_nil he) hg (by decide) (by decide) he (by rfl)
theorem dx_tupleL {ds : List PyData} (h : DX X e ρ ea ρ1 (.dat (.list ds))) (hm : X.mg "tuple" = none) (hg : Gl X "tuple" := by rfl) (he : starEach [ea] X.env = (false, eval ea X.env) :: starEach [] X.env := by rfl) : DX X e ρ (.Call (.Name "tuple" p) [ea] [] pos) ρ1 (.dat (.tuple ds)) :=
  PE.mono (pe_tupleOf hg hm h he) fun σ H Q ⟨S, stk, c, o, q⟩ => ⟨S, stk, c, o, fun v H1 S1 c1 o1 => by
    obtain ⟨a, xs, rfl, e1, hd⟩ := mem_da.mp o1.dat
    exact .inl ⟨a, xs, rfl, SqL.of (o1.same _ _ e1), fun p hp => q _ _ _ c1 (o1.drop.newTup hp hd)⟩⟩
theorem dx_tupleT {ds : List PyData} (h : DX X e ρ ea ρ1 (.dat (.tuple ds))) (hm : X.mg "tuple" = none) (hg : Gl X "tuple" := by rfl) (he : starEach [ea] X.env = (false, eval ea X.env) :: starEach [] X.env := by rfl) : DX X e ρ (.Call (.Name "tuple" p) [ea] [] pos) ρ1 (.dat (.tuple ds)) :=
  PE.mono (pe_tupleOf hg hm h he) fun σ H Q ⟨S, stk, c, o, q⟩ => ⟨S, stk, c, o, fun v H1 S1 c1 o1 => by
    obtain ⟨a, xs, rfl, e1, hd⟩ := mem_dat.mp o1.dat
    exact .inr ⟨a, xs, rfl, same_t o1.same e1, q _ _ S1 c1 o1⟩⟩
/-! ### range(..) as an argument -/
def tRgD (K : PySem.W.Frag) (e : En) (ρ ρ' : Rho) (i j : Int) : L2.St → Hp → (Int → Int → Hp → Prop) → Prop := fun σ H Q => ∃ S stk, Cov ρ σ ∧ Os K e (stk ++ ents ρ σ) H S ∧ ∀ H' S', Cov ρ' σ → Os K e (stk ++ ents ρ' σ) H' S' → Q i j H'
def DR (X : Cx) (e : En) (ρ : Rho) (ex : Expr) (ρ' : Rho) (i j : Int) : Prop := PRg X ex (tRgD X.K e ρ ρ' i j)
theorem prg_mono {t t' : L2.St → Hp → (Int → Int → Hp → Prop) → Prop} (h : PRg X ex t) (g : ∀ σ H Q, t' σ H Q → t σ H Q) : PRg X ex t' := fun pins s σ H Q I q => h pins s σ H Q I (g σ H Q q)
theorem dr_1 {n : Int} (h : DX X e ρ ea ρ1 (.dat (.int n))) (hm : X.mg "range" = none) (hg : Gl X "range" := by rfl) (he : starEach [ea] X.env = (false, eval ea X.env) :: starEach [] X.env := by rfl) : DR X e ρ (.Call (.Name "range" p) [ea] [] pos) ρ1 0 n :=
  prg_mono (prg_1 hg hm h he) fun σ H Q ⟨S, stk, c, o, q⟩ => ⟨S, stk, c, o, fun v H1 S1 c1 o1 => by
    have hv := o1.dat
    simp only [Da] at hv
    exact ⟨n, hv, q H1 S1 c1 o1.drop⟩⟩
theorem dr_2 {m n : Int} (h : DX X e ρ ea ρ1 (.dat (.int m))) (h2 : DX X e ρ1 eb ρ2 (.dat (.int n))) (hm : X.mg "range" = none) (hg : Gl X "range" := by rfl) (he : starEach [ea, eb] X.env = (false, eval ea X.env) :: starEach [eb] X.env := by rfl) (he2 : starEach [eb] X.env = (false, eval eb X.env) :: starEach [] X.env := by rfl) : DR X e ρ (.Call (.Name "range" p) [ea, eb] [] pos) ρ2 m n :=
  prg_mono (prg_2 hg hm h h2 he he2 (by rw [he2]; rfl)) fun σ H Q ⟨S, stk, c, o, q⟩ => ⟨S, stk, c, o, fun v H1 S1 c1 o1 => ⟨S1, (.dat (.int m), v) :: stk, c1, o1, fun w H2 S2 c2 o2 => by
    have hw := o2.dat
    have hv := o2.drop.dat
    simp only [Da] at hw hv
    exact ⟨m, n, hv, hw, q H2 S2 c2 o2.drop.drop⟩⟩⟩
theorem rgV_eq (i j : Int) : rgV i j = (rng i (j - i).toNat).map V.int := by unfold rgV rng; rw [List.map_map]; rfl
theorem dx_listRg {i j : Int} (hc : X.calm = true) (h : DR X e ρ ea ρ1 i j) (hz : RgOk i j) (hm : X.mg "list" = none) (hg : Gl X "list" := by rfl) (he : starEach [ea] X.env = (false, eval ea X.env) :: starEach [] X.env := by rfl) : DX X e ρ (.Call (.Name "list" p) [ea] [] pos) ρ1 (.ml ((rng i (j - i).toNat).map .int)) :=
  PE.mono (pe_listRg hc hg hm h he) fun σ H Q ⟨S, stk, c, o, q⟩ => ⟨S, stk, c, o, fun H1 S1 c1 o1 => ⟨hz, fun a ha => by
    rw [rgV_eq]
    refine q _ _ S1 c1 (o1.newO ha (fun xs z => by cases z) ?_)
    simp only [Ho]
    exact ⟨a, _, rfl, rfl, upd_same, DaL.of_ints _⟩⟩⟩
theorem dx_tupRg {i j : Int} (hc : X.calm = true) (h : DR X e ρ ea ρ1 i j) (hz : RgOk i j) (hm : X.mg "tuple" = none) (hg : Gl X "tuple" := by rfl) (he : starEach [ea] X.env = (false, eval ea X.env) :: starEach [] X.env := by rfl) : DX X e ρ (.Call (.Name "tuple" p) [ea] [] pos) ρ1 (.dat (.tuple ((rng i (j - i).toNat).map .int))) :=
  PE.mono (pe_tupRg hc hg hm h he) fun σ H Q ⟨S, stk, c, o, q⟩ => ⟨S, stk, c, o, fun H1 S1 c1 o1 => ⟨hz, fun a ha => by
    rw [rgV_eq]
    exact q _ _ _ c1 (o1.newTup ha (DaL.of_ints _))⟩⟩
/-! ### other built-ins -/
section
variable {i j : Int}
theorem rcd_int1 {K : PySem.W.Frag} {r : List V → Hp → VK → Prop} {d : PyData} {v : V} (h : ∀ H Q, Q v H → r [.int i] H Q) (hd : ∀ S, Da K S d v) : Rcd K r [.int i] (.dat d) := fun e L H S vs Q o hv q => by
  simp only [DaL, Da] at hv
  obtain ⟨_, _, rfl, rfl, rfl⟩ := hv
  exact h H Q (q _ H S (o.push (hd S)))
theorem rcd_int2 {K : PySem.W.Frag} {r : List V → Hp → VK → Prop} {d : PyData} {v : V} (h : ∀ H Q, Q v H → r [.int i, .int j] H Q) (hd : ∀ S, Da K S d v) : Rcd K r [.int i, .int j] (.dat d) := fun e L H S vs Q o hv q => by
  simp only [DaL, Da] at hv
  obtain ⟨_, _, rfl, rfl, _, _, rfl, rfl, rfl⟩ := hv
  exact h H Q (q _ H S (o.push (hd S)))
theorem dx_abs (h : DX X e ρ ea ρ1 (.dat (.int i))) (hm : X.mg "abs" = none) (hg : Gl X "abs" := by rfl) (he : starEach [ea] X.env = (false, eval ea X.env) :: starEach [] X.env := by rfl) : DX X e ρ (.Call (.Name "abs" p) [ea] [] pos) ρ1 (.dat (.int (if i < 0 then -i else i))) :=
  dx_B (ds := [.int i]) call_abs (rcd_int1 (fun H Q q => ⟨i, rfl, q⟩) fun S => da_int _ _) hm (by decide +kernel) (da_cons h da_nil he) hg (by decide) (by decide) he (by rfl)
theorem dx_max2 (hc : X.calm = true) (h : DX X e ρ ea ρ1 (.dat (.int i))) (h2 : DX X e ρ1 eb ρ2 (.dat (.int j))) (hm : X.mg "max" = none) (hg : Gl X "max" := by rfl) (he : starEach [ea, eb] X.env = (false, eval ea X.env) :: starEach [eb] X.env := by rfl) (he2 : starEach [eb] X.env = (false, eval eb X.env) :: starEach [] X.env := by rfl) : DX X e ρ (.Call (.Name "max" p) [ea, eb] [] pos) ρ2 (.dat (.int (if j > i then j else i))) :=
  dx_B (ds := [.int i, .int j]) (call_max2 hc) (rcd_int2 (fun H Q q => ⟨i, j, rfl, q⟩) fun S => da_int _ _) hm (by decide +kernel) (da_cons h (da_cons h2 da_nil he2) he) hg (by decide) (by decide) he (by rw [he2]; rfl)
theorem dx_min2 (hc : X.calm = true) (h : DX X e ρ ea ρ1 (.dat (.int i))) (h2 : DX X e ρ1 eb ρ2 (.dat (.int j))) (hm : X.mg "min" = none) (hg : Gl X "min" := by rfl) (he : starEach [ea, eb] X.env = (false, eval ea X.env) :: starEach [eb] X.env := by rfl) (he2 : starEach [eb] X.env = (false, eval eb X.env) :: starEach [] X.env := by rfl) : DX X e ρ (.Call (.Name "min" p) [ea, eb] [] pos) ρ2 (.dat (.int (if j < i then j else i))) :=
  dx_B (ds := [.int i, .int j]) (call_min2 hc) (rcd_int2 (fun H Q q => ⟨i, j, rfl, q⟩) fun S => da_int _ _) hm (by decide +kernel) (da_cons h (da_cons h2 da_nil he2) he) hg (by decide) (by decide) he (by rw [he2]; rfl)
theorem dx_intI (h : DX X e ρ ea ρ1 (.dat (.int i))) (hm : X.mg "int" = none) (hg : Gl X "int" := by rfl) (he : starEach [ea] X.env = (false, eval ea X.env) :: starEach [] X.env := by rfl) : DX X e ρ (.Call (.Name "int" p) [ea] [] pos) ρ1 (.dat (.int i)) :=
  dx_Ty (ds := [.int i]) call_int1 (rcd_int1 (fun H Q q => .inl ⟨i, rfl, q⟩) fun S => da_int _ _) hm (by decide +kernel) (da_cons h da_nil he) hg (by decide) (by decide) he (by rfl)
theorem dx_intB {b : Bool} (h : DX X e ρ ea ρ1 (.dat (.bool b))) (hm : X.mg "int" = none) (hg : Gl X "int" := by rfl) (he : starEach [ea] X.env = (false, eval ea X.env) :: starEach [] X.env := by rfl) : DX X e ρ (.Call (.Name "int" p) [ea] [] pos) ρ1 (.dat (.int (if b then 1 else 0))) :=
  dx_Ty (ds := [.bool b]) call_int1 (fun e L H S vs Q o hv q => by
    simp only [DaL, Da] at hv
    obtain ⟨_, _, rfl, rfl, rfl⟩ := hv
    exact .inr ⟨b, rfl, q _ H S (o.push (da_int _ _))⟩) hm (by decide +kernel) (da_cons h da_nil he) hg (by decide) (by decide) he (by rfl)
theorem dx_pow (ha : DX X e ρ ea ρ1 (.dat (.int i))) (hb : DX X e ρ1 eb ρ2 (.dat (.int j))) (h : CPow i j) : DX X e ρ (.BinOp ea .Pow eb pos) ρ2 (.dat (.int (i ^ j.toNat))) := dx_op op_pow (r2_intsC h da_int) ha hb
theorem dx_sum {ns : List Int} (hc : X.calm = true) (h : DX X e ρ ea ρ1 (.dat (.list (ns.map .int)))) (hm : X.mg "sum" = none) (hg : Gl X "sum" := by rfl) (he : starEach [ea] X.env = (false, eval ea X.env) :: starEach [] X.env := by rfl) : DX X e ρ (.Call (.Name "sum" p) [ea] [] pos) ρ1 (.dat (.int ns.sum)) :=
  dx_B (ds := [.list (ns.map .int)]) (cr_sum hc) (fun e L H S vs Q o h q => by
    simp only [DaL] at h
    obtain ⟨v, _, rfl, h, rfl⟩ := h
    obtain ⟨a, xs, rfl, e1, hd⟩ := mem_da.mp h
    rw [DaL.ints hd] at e1
    exact ⟨a, ns, rfl, SqL.of (o.same _ _ e1), q _ H S (o.push (da_int _ _))⟩) hm (by decide +kernel) (da_cons h da_nil he) hg (by decide) (by decide) he (by rfl)
theorem dx_all {bs : List Bool} (hc : X.calm = true) (h : DX X e ρ ea ρ1 (.dat (.list (bs.map .bool)))) (hm : X.mg "all" = none) (hg : Gl X "all" := by rfl) (he : starEach [ea] X.env = (false, eval ea X.env) :: starEach [] X.env := by rfl) : DX X e ρ (.Call (.Name "all" p) [ea] [] pos) ρ1 (.dat (.bool (bs.all id))) :=
  dx_B (ds := [.list (bs.map .bool)]) (cr_all hc) (fun e L H S vs Q o h q => by
    simp only [DaL] at h
    obtain ⟨v, _, rfl, h, rfl⟩ := h
    obtain ⟨a, xs, rfl, e1, hd⟩ := mem_da.mp h
    rw [DaL.bls hd] at e1
    exact ⟨a, bs, rfl, SqL.of (o.same _ _ e1), q _ H S (o.push (da_bl _ _))⟩) hm (by decide +kernel) (da_cons h da_nil he) hg (by decide) (by decide) he (by rfl)
theorem dx_any {bs : List Bool} (hc : X.calm = true) (h : DX X e ρ ea ρ1 (.dat (.list (bs.map .bool)))) (hm : X.mg "any" = none) (hg : Gl X "any" := by rfl) (he : starEach [ea] X.env = (false, eval ea X.env) :: starEach [] X.env := by rfl) : DX X e ρ (.Call (.Name "any" p) [ea] [] pos) ρ1 (.dat (.bool (bs.any id))) :=
  dx_B (ds := [.list (bs.map .bool)]) (cr_any hc) (fun e L H S vs Q o h q => by
    simp only [DaL] at h
    obtain ⟨v, _, rfl, h, rfl⟩ := h
    obtain ⟨a, xs, rfl, e1, hd⟩ := mem_da.mp h
    rw [DaL.bls hd] at e1
    exact ⟨a, bs, rfl, SqL.of (o.same _ _ e1), q _ H S (o.push (da_bl _ _))⟩) hm (by decide +kernel) (da_cons h da_nil he) hg (by decide) (by decide) he (by rfl)
end
end
end Ov
set_option Elab.async false
set_option linter.all false
set_option maxRecDepth 100000
set_option maxHeartbeats 1000000
namespace Ov
open PySem PySem.Spec PyProof.Rows L2
section
variable {X : Cx} {e : En} {ρ ρ1 ρ2 : Rho} {ea eb ex : Expr} {pos p : Pos} {k : Kd}
/-- the first place of an equal one -/
def ixOf (d : PyData) (ds : List PyData) : Option Nat := ds.findIdx? fun z => PyData.eqv z d
theorem dx_indexD {ds : List PyData} {d : PyData} {j lv : Nat} {apos : Pos} (hr : Room (lv + 1) X.A) (ha : DX X e ρ ea ρ1 (.dat (.list ds))) (hb : DX X e ρ1 eb ρ2 (.dat d)) (sl : SeqAt.shaped (.list ds) = true) (sd : SeqAt.shaped d = true) (h : ixOf d ds = some j) (hbase : attributeBase ea "index" X.env (eval ea X.env) = eval ea X.env := by rfl)
    (hfew : ((backTo pos (starEach [eb] X.env)).all (fun x => !x.1) && (backToKw pos (keywordEach [] X.env)).all (fun x => x.1.isSome) && decide ([eb].length + ([] : List Keyword).length + (if ([] : List Keyword).isEmpty then 0 else 1) < 30)) = true := by rfl)
    (hline : (apos.endLine == pos.line) = true := by rfl) (hs : starEach [eb] X.env = (false, eval eb X.env) :: starEach [] X.env := by rfl) (hplain : (backTo pos (starEach [] X.env)).any (·.1) = false := by rfl) :
    DX X e ρ (.Call (.Attribute ea "index" apos) [eb] [] pos) ρ2 (.dat (.int (j : Nat))) :=
  PE.mono (pe_bm PySem.F.plainAttrs_list PySem.F.slot_list_index PySem.F.type_list_index (mt_indexD (by have := hr.un; omega)) ha (da_cons hb da_nil hs) hbase hfew hline hs hplain) fun σ H Q ⟨S, stk, c, o, q⟩ => ⟨S, stk, c, o, fun v H1 S1 c1 o1 => by
    obtain ⟨a, xs, rfl, e1, hd⟩ := mem_da.mp o1.dat
    refine ⟨.inl ⟨rfl, xs, SqL.of (o1.same _ _ e1)⟩, S1, (.dat (.list ds), .ref a) :: stk, c1, o1, fun vs H2 S2 c2 ok o2 => ?_⟩
    obtain ⟨e2, e3⟩ := pushed_pus (ds := [d]) ok
    have e2 : pushed [Ar.pu (.dat d)] vs = ([Kd.dat d] : List Kd).zip vs := e2
    rw [e2] at o2
    have hv := Os.dats (ds := [d]) e3 o2
    simp only [DaL] at hv
    obtain ⟨y, _, rfl, hy, rfl⟩ := hv
    obtain ⟨hj, he, hn⟩ := List.findIdx?_eq_some_iff_getElem.mp h
    refine ⟨a, y, d, ds, j, ds[j], rfl, rfl, Da.dp o2.same _ _ o2.drop.dat, Da.dp o2.same _ _ hy, sl, sd, List.getElem?_eq_getElem hj, he, fun m z hm hz => ?_, q _ H2 S2 c2 (o2.drop.drop.push (da_int _ _))⟩
    have hml : m < ds.length := Nat.lt_trans hm hj
    rw [List.getElem?_eq_getElem hml] at hz
    cases hz
    simpa using hn m hm⟩
end
end Ov
set_option Elab.async false
set_option linter.all false
set_option maxRecDepth 100000
set_option maxHeartbeats 1000000
namespace Ov
open PySem PySem.Spec PyProof.Rows L2
/-! ### what is computed, in plain Lean: none where no rule tells it -/
abbrev OP := Option PyData
def pAdd : PyData → PyData → OP
  | .int i, .int j => some (.int (i + j))
  | .list a, .list b => if a.length + b.length ≤ 16777216 then some (.list (a ++ b)) else none
  | .tuple a, .tuple b => if a.length + b.length ≤ 16777216 then some (.tuple (a ++ b)) else none
  | _, _ => none
def pSub : PyData → PyData → OP
  | .int i, .int j => some (.int (i - j))
  | _, _ => none
def pMul : PyData → PyData → OP
  | .int i, .int j => if (-18446744073709551616 < i ∧ i < 18446744073709551616) ∨ (-18446744073709551616 < j ∧ j < 18446744073709551616) then some (.int (i * j)) else none
  | .list a, .int n => if (-1000000 < n ∧ n < 1000000) ∧ a.length * n.toNat ≤ 16777216 then some (.list (List.replicate n.toNat a).flatten) else none
  | _, _ => none
def pDiv : PyData → PyData → OP
  | .int i, .int j => if 0 < j ∧ j < 1073741824 then some (.int (i / j)) else none
  | _, _ => none
def pMod : PyData → PyData → OP
  | .int i, .int j => if 0 < j then some (.int (i % j)) else none
  | _, _ => none
def pPow : PyData → PyData → OP
  | .int i, .int j => if 0 ≤ j ∧ j ≤ 1000 ∧ i.natAbs < 18446744073709551616 then some (.int (i ^ j.toNat)) else none
  | _, _ => none
def pNeg : PyData → OP
  | .int i => some (.int (-i))
  | _ => none
def pLt : PyData → PyData → Option Bool
  | .int i, .int j => some (decide (i < j))
  | _, _ => none
def pLe : PyData → PyData → Option Bool
  | .int i, .int j => some (decide (i ≤ j))
  | _, _ => none
def pGt : PyData → PyData → Option Bool
  | .int i, .int j => some (decide (j < i))
  | _, _ => none
def pGe : PyData → PyData → Option Bool
  | .int i, .int j => some (decide (j ≤ i))
  | _, _ => none
def pEq (a b : PyData) : Option Bool := if shp 64 a && shp 64 b then some (PyData.eqv a b) else none
def pIn (d : PyData) : PyData → Option Bool
  | .list ds => if shp 64 d && shp 64 (.list ds) then some (isIn d ds) else none
  | .tuple ds => if flatD d && ds.all flatD then some (isIn d ds) else none
  | _ => none
def pB : PyData → Option Bool
  | .bool b => some b
  | _ => none
def pIx : PyData → PyData → OP
  | .list ds, .int i => atI ds i
  | .tuple ds, .int i => atI ds i
  | _, _ => none
def pSl : PyData → Option Int → Option Int → OP
  | .list ds, i, j => some (.list (cut ds i j))
  | .tuple ds, i, j => some (.tuple (cut ds i j))
  | _, _, _ => none
def pInt : PyData → Option Int
  | .int i => some i
  | _ => none
def pRev : PyData → OP
  | .list ds => some (.list ds.reverse)
  | .tuple ds => some (.tuple ds.reverse)
  | _ => none
def pLen : PyData → OP
  | .list ds => some (.int (ds.length : Nat))
  | .tuple ds => some (.int (ds.length : Nat))
  | _ => none
def pIt : PyData → Option (List PyData)
  | .list ds => some ds
  | .tuple ds => some ds
  | _ => none
def pRg : PyData → PyData → Option (List PyData)
  | .int m, .int n => if (-1000000000 ≤ m ∧ m ≤ 1000000000) ∧ (-1000000000 ≤ n ∧ n ≤ 1000000000) ∧ n - m ≤ 16777216 then some ((rng m (n - m).toNat).map .int) else none
  | _, _ => none
def pEn : PyData → Option (List PyData)
  | .list ds => some (enumD ds)
  | _ => none
def pZa : PyData → Option (Bool × List PyData)
  | .list ds => some (false, ds)
  | .tuple ds => some (true, ds)
  | _ => none
/-- all of one length -/
def zLen (as : Zas) (n : Nat) : Bool := as.all fun a => a.2.length == n
def pZ2 (a b : PyData) : Option (List PyData) := (pZa a).bind fun x => (pZa b).bind fun y => if y.2.length == x.2.length && x.2.length ≤ 16777216 then some (zipD [x, y] x.2.length) else none
def pZ3 (a b c : PyData) : Option (List PyData) := (pZa a).bind fun x => (pZa b).bind fun y => (pZa c).bind fun z => if (y.2.length == x.2.length && z.2.length == x.2.length) && x.2.length ≤ 16777216 then some (zipD [x, y, z] x.2.length) else none
def pInts : List PyData → Option (List Int)
  | [] => some []
  | .int i :: ds => (pInts ds).map (i :: ·)
  | _ => none
def pBools : List PyData → Option (List Bool)
  | [] => some []
  | .bool i :: ds => (pBools ds).map (i :: ·)
  | _ => none
theorem pInts_eq : ∀ {ds : List PyData} {ns : List Int}, pInts ds = some ns → ds = ns.map .int
  | [], ns, h => by simp [pInts] at h; subst h; rfl
  | .int i :: ds, ns, h => by
    simp only [pInts, Option.map_eq_some_iff] at h
    obtain ⟨ms, h1, rfl⟩ := h
    rw [pInts_eq h1]
    rfl
  | .none :: _, _, h => by simp [pInts] at h
  | .bool _ :: _, _, h => by simp [pInts] at h
  | .str _ :: _, _, h => by simp [pInts] at h
  | .list _ :: _, _, h => by simp [pInts] at h
  | .tuple _ :: _, _, h => by simp [pInts] at h
  | .dict _ :: _, _, h => by simp [pInts] at h
theorem pBools_eq : ∀ {ds : List PyData} {ns : List Bool}, pBools ds = some ns → ds = ns.map .bool
  | [], ns, h => by simp [pBools] at h; subst h; rfl
  | .bool i :: ds, ns, h => by
    simp only [pBools, Option.map_eq_some_iff] at h
    obtain ⟨ms, h1, rfl⟩ := h
    rw [pBools_eq h1]
    rfl
  | .none :: _, _, h => by simp [pBools] at h
  | .int _ :: _, _, h => by simp [pBools] at h
  | .str _ :: _, _, h => by simp [pBools] at h
  | .list _ :: _, _, h => by simp [pBools] at h
  | .tuple _ :: _, _, h => by simp [pBools] at h
  | .dict _ :: _, _, h => by simp [pBools] at h
def pSortI : PyData → Option (List PyData)
  | .list ds => (pInts ds).map fun ns => (isort ns).map .int
  | .tuple ds => (pInts ds).map fun ns => (isort ns).map .int
  | _ => none
def pSum : PyData → OP
  | .list ds => (pInts ds).map fun ns => .int ns.sum
  | _ => none
def pAll : PyData → OP
  | .list ds => (pBools ds).map fun ns => .bool (ns.all id)
  | _ => none
def pAny : PyData → OP
  | .list ds => (pBools ds).map fun ns => .bool (ns.any id)
  | _ => none
def pTup : PyData → OP
  | .list ds => some (.tuple ds)
  | .tuple ds => some (.tuple ds)
  | _ => none
def pMax (a b : PyData) : OP := match a, b with
  | .int i, .int j => some (.int (if j > i then j else i))
  | _, _ => none
def pMin (a b : PyData) : OP := match a, b with
  | .int i, .int j => some (.int (if j < i then j else i))
  | _, _ => none
def pAbs : PyData → OP
  | .int i => some (.int (if i < 0 then -i else i))
  | _ => none
def pToI : PyData → OP
  | .int i => some (.int i)
  | .bool b => some (.int (if b then 1 else 0))
  | _ => none
def pIndex : PyData → PyData → OP
  | .list ds, d => if shp 64 (.list ds) && shp 64 d then (ixOf d ds).map fun j => .int (j : Nat) else none
  | _, _ => none
def u2 : PyData → Option (PyData × PyData)
  | .tuple [a, b] => some (a, b)
  | _ => none
def u3 : PyData → Option (PyData × PyData × PyData)
  | .tuple [a, b, c] => some (a, b, c)
  | _ => none

/-! ### the judgements, with what is computed -/
section
variable (X : Cx) (e : En) (ρ : Rho)
def OX (ex : Expr) (m : OP) : Prop := ∀ d, m = some d → DX X e ρ ex ρ (.dat d)
def OM (ex : Expr) (m : Option (List PyData)) : Prop := ∀ ds, m = some ds → DX X e ρ ex ρ (.ml ds)
def OT (ex : Expr) (m : Option Bool) : Prop := ∀ b, m = some b → DT X e ρ ex ρ b
def OW (ex : Expr) (m : Option Bool) : Prop := ∀ b, m = some b → DW X e ρ ex ρ b
def OA (es : List Expr) (m : Option (List PyData)) : Prop := ∀ ds, m = some ds → DA X e ρ es ρ (pus ds)
def OI (tg ex : Expr) (m : Option (List PyData)) : Prop := ∀ ds, m = some ds → DI X e ρ tg ex ρ ds
def OQ (ex : Option Expr) (m : Option (Option Int)) : Prop := ∀ i, m = some i → DP X e ρ ex ρ i
def OG {τ : Type} (tg : Expr) (un : PyData → Option τ) (enc : τ → Rho) (ts : List Nat) : Prop := ∀ d t, un d = some t → DG X e ρ tg (.dat d) (enc t) ts
end
/-- what every rule asks of the frame -/
def blts : List Str := ["len", "range", "sorted", "list", "tuple", "zip", "enumerate", "min", "max", "sum", "all", "any", "abs", "int", "isinstance", "set", "str", "dict", "bool", "frozenset", "reversed"]
structure Am (X : Cx) (lv : Nat) : Prop where
  calm : X.calm = true
  nod : X.N.Nodup
  room : Room (lv + 1) X.A
  bl : ∀ x ∈ blts, X.mg x = none
theorem ob {α β : Type} {x : Option α} {f : α → Option β} {b : β} (h : x.bind f = some b) : ∃ a, x = some a ∧ f a = some b := Option.bind_eq_some_iff.mp h
theorem om {α β : Type} {x : Option α} {f : α → β} {b : β} (h : x.map f = some b) : ∃ a, x = some a ∧ f a = b := Option.map_eq_some_iff.mp h
theorem oi {α : Type} {c : Prop} [Decidable c] {x : Option α} {b : α} (h : (if c then x else none) = some b) : c ∧ x = some b := by
  split at h
  · rename_i hc; exact ⟨hc, h⟩
  · cases h
section
variable {X : Cx} {e : En} {ρ : Rho} {ea eb ec ex tg : Expr} {es : List Expr} {pos p : Pos} {lv : Nat} {ma mb mc : OP} {ta tb : Option Bool}
theorem OX.of {d : PyData} (h : DX X e ρ ex ρ (.dat d)) : OX X e ρ ex (some d) := fun _ z => by cases z; exact h
theorem ox_fz {m : Option (List PyData)} (h : OM X e ρ ex m) : OX X e ρ ex (m.map .list) := fun d z => by
  obtain ⟨ds, h1, rfl⟩ := om z
  exact dx_fz (h ds h1)
theorem ox_var (i : Nat) {x : Str} {d : PyData} (hρ : ρ[i]? = some (some (.dat d)) := by rfl) (hN : X.N[i]? = some x := by rfl) (hv : Vis X.env.scope x := by first | exact Or.inl rfl | exact Or.inr (Or.inl rfl) | exact Or.inr (Or.inr rfl))
    (hd : (x == ("__debug__" : Str)) = false := by decide) (hcd : (x == ("__classdict__" : Str)) = false := by decide) : OX X e ρ (.Name x p) (some d) := OX.of (dx_var i hρ hN hv hd hcd)
theorem ox_int {i : Int} {j q} : OX X e ρ (.Constant (.int i) j q) (some (.int i)) := OX.of dx_int
theorem ox_bl {i : Bool} {j q} : OX X e ρ (.Constant (.bool i) j q) (some (.bool i)) := OX.of dx_bl
theorem ox_non {j q} : OX X e ρ (.Constant .none j q) (some .none) := OX.of dx_non
theorem ox_str {i : Str} {j q} : OX X e ρ (.Constant (.str i) j q) (some (.str i)) := OX.of dx_str
theorem ox_gint {x : Str} {i : Int} {t : Tok} (hm : X.mg x = some (.int i t)) (hg : Gl X x := by rfl) (hd : (x == ("__debug__" : Str)) = false := by decide) : OX X e ρ (.Name x p) (some (.int i)) := OX.of (dx_gint hg hm hd)
theorem ox_gstr {x : Str} {i : Str} {t : Tok} (hm : X.mg x = some (.str i t)) (hg : Gl X x := by rfl) (hd : (x == ("__debug__" : Str)) = false := by decide) : OX X e ρ (.Name x p) (some (.str i)) := OX.of (dx_gstr hg hm hd)
theorem ox_add (ha : OX X e ρ ea ma) (hb : OX X e ρ eb mb) : OX X e ρ (.BinOp ea .Add eb pos) (ma.bind fun a => mb.bind fun b => pAdd a b) := fun d z => by
  obtain ⟨a, h1, z⟩ := ob z
  obtain ⟨b, h2, z⟩ := ob z
  have ha := ha a h1
  have hb := hb b h2
  unfold pAdd at z
  split at z
  · cases z; exact dx_add ha hb
  · obtain ⟨hz, z⟩ := oi z; cases z; exact dx_fz (dx_catL ha hb hz)
  · obtain ⟨hz, z⟩ := oi z; cases z; exact dx_catT ha hb hz
  · cases z
theorem ox_sub (ha : OX X e ρ ea ma) (hb : OX X e ρ eb mb) : OX X e ρ (.BinOp ea .Sub eb pos) (ma.bind fun a => mb.bind fun b => pSub a b) := fun d z => by
  obtain ⟨a, h1, z⟩ := ob z
  obtain ⟨b, h2, z⟩ := ob z
  have ha := ha a h1
  have hb := hb b h2
  unfold pSub at z
  split at z
  · cases z; exact dx_sub ha hb
  · cases z
theorem ox_mul (ha : OX X e ρ ea ma) (hb : OX X e ρ eb mb) : OX X e ρ (.BinOp ea .Mult eb pos) (ma.bind fun a => mb.bind fun b => pMul a b) := fun d z => by
  obtain ⟨a, h1, z⟩ := ob z
  obtain ⟨b, h2, z⟩ := ob z
  have ha := ha a h1
  have hb := hb b h2
  unfold pMul at z
  split at z
  · obtain ⟨hz, z⟩ := oi z; cases z; exact dx_mul ha hb (by unfold CMul; exact hz)
  · obtain ⟨hz, z⟩ := oi z; cases z; exact dx_fz (dx_repL ha hb (by omega) (by omega) hz.2)
  · cases z
theorem ox_div (ha : OX X e ρ ea ma) (hb : OX X e ρ eb mb) : OX X e ρ (.BinOp ea .FloorDiv eb pos) (ma.bind fun a => mb.bind fun b => pDiv a b) := fun d z => by
  obtain ⟨a, h1, z⟩ := ob z
  obtain ⟨b, h2, z⟩ := ob z
  have ha := ha a h1
  have hb := hb b h2
  unfold pDiv at z
  split at z
  · obtain ⟨hz, z⟩ := oi z; cases z; exact dx_div ha hb hz
  · cases z
theorem ox_mod (ha : OX X e ρ ea ma) (hb : OX X e ρ eb mb) : OX X e ρ (.BinOp ea .Mod eb pos) (ma.bind fun a => mb.bind fun b => pMod a b) := fun d z => by
  obtain ⟨a, h1, z⟩ := ob z
  obtain ⟨b, h2, z⟩ := ob z
  have ha := ha a h1
  have hb := hb b h2
  unfold pMod at z
  split at z
  · obtain ⟨hz, z⟩ := oi z; cases z; exact dx_mod ha hb hz
  · cases z
theorem ox_pow (ha : OX X e ρ ea ma) (hb : OX X e ρ eb mb) : OX X e ρ (.BinOp ea .Pow eb pos) (ma.bind fun a => mb.bind fun b => pPow a b) := fun d z => by
  obtain ⟨a, h1, z⟩ := ob z
  obtain ⟨b, h2, z⟩ := ob z
  have ha := ha a h1
  have hb := hb b h2
  unfold pPow at z
  split at z
  · obtain ⟨hz, z⟩ := oi z; cases z; exact dx_pow ha hb ⟨hz.1, by omega, hz.2.2⟩
  · cases z
theorem ox_neg (ha : OX X e ρ ea ma) : OX X e ρ (.UnaryOp .USub ea pos) (ma.bind pNeg) := fun d z => by
  obtain ⟨a, h1, z⟩ := ob z
  have ha := ha a h1
  unfold pNeg at z
  split at z
  · cases z; exact dx_neg ha
  · cases z
/-! tests -/
theorem ot_lt (ha : OX X e ρ ea ma) (hb : OX X e ρ eb mb) : OT X e ρ (.Compare ea [.Lt] [eb] pos) (ma.bind fun a => mb.bind fun b => pLt a b) := fun d z => by
  obtain ⟨a, h1, z⟩ := ob z
  obtain ⟨b, h2, z⟩ := ob z
  have ha := ha a h1
  have hb := hb b h2
  unfold pLt at z
  split at z
  · cases z; exact dt_lt ha hb
  · cases z
theorem ot_le (ha : OX X e ρ ea ma) (hb : OX X e ρ eb mb) : OT X e ρ (.Compare ea [.LtE] [eb] pos) (ma.bind fun a => mb.bind fun b => pLe a b) := fun d z => by
  obtain ⟨a, h1, z⟩ := ob z
  obtain ⟨b, h2, z⟩ := ob z
  have ha := ha a h1
  have hb := hb b h2
  unfold pLe at z
  split at z
  · cases z; exact dt_le ha hb
  · cases z
theorem ot_gt (ha : OX X e ρ ea ma) (hb : OX X e ρ eb mb) : OT X e ρ (.Compare ea [.Gt] [eb] pos) (ma.bind fun a => mb.bind fun b => pGt a b) := fun d z => by
  obtain ⟨a, h1, z⟩ := ob z
  obtain ⟨b, h2, z⟩ := ob z
  have ha := ha a h1
  have hb := hb b h2
  unfold pGt at z
  split at z
  · cases z; exact dt_gt ha hb
  · cases z
theorem ot_ge (ha : OX X e ρ ea ma) (hb : OX X e ρ eb mb) : OT X e ρ (.Compare ea [.GtE] [eb] pos) (ma.bind fun a => mb.bind fun b => pGe a b) := fun d z => by
  obtain ⟨a, h1, z⟩ := ob z
  obtain ⟨b, h2, z⟩ := ob z
  have ha := ha a h1
  have hb := hb b h2
  unfold pGe at z
  split at z
  · cases z; exact dt_ge ha hb
  · cases z
/-- a test's value -/
theorem ox_lt (ha : OX X e ρ ea ma) (hb : OX X e ρ eb mb) : OX X e ρ (.Compare ea [.Lt] [eb] pos) ((ma.bind fun a => mb.bind fun b => pLt a b).map .bool) := fun d z => by
  obtain ⟨c, zz, e0⟩ := om z
  clear z
  have z := zz
  clear zz
  subst e0
  obtain ⟨a, h1, z⟩ := ob z
  obtain ⟨b, h2, z⟩ := ob z
  have ha := ha a h1
  have hb := hb b h2
  unfold pLt at z
  split at z
  · cases z; exact dx_lt ha hb
  · cases z
theorem ox_le (ha : OX X e ρ ea ma) (hb : OX X e ρ eb mb) : OX X e ρ (.Compare ea [.LtE] [eb] pos) ((ma.bind fun a => mb.bind fun b => pLe a b).map .bool) := fun d z => by
  obtain ⟨c, zz, e0⟩ := om z
  clear z
  have z := zz
  clear zz
  subst e0
  obtain ⟨a, h1, z⟩ := ob z
  obtain ⟨b, h2, z⟩ := ob z
  have ha := ha a h1
  have hb := hb b h2
  unfold pLe at z
  split at z
  · cases z; exact dx_le ha hb
  · cases z
theorem ox_gt (ha : OX X e ρ ea ma) (hb : OX X e ρ eb mb) : OX X e ρ (.Compare ea [.Gt] [eb] pos) ((ma.bind fun a => mb.bind fun b => pGt a b).map .bool) := fun d z => by
  obtain ⟨c, zz, e0⟩ := om z
  clear z
  have z := zz
  clear zz
  subst e0
  obtain ⟨a, h1, z⟩ := ob z
  obtain ⟨b, h2, z⟩ := ob z
  have ha := ha a h1
  have hb := hb b h2
  unfold pGt at z
  split at z
  · cases z; exact dx_gt ha hb
  · cases z
theorem ox_ge (ha : OX X e ρ ea ma) (hb : OX X e ρ eb mb) : OX X e ρ (.Compare ea [.GtE] [eb] pos) ((ma.bind fun a => mb.bind fun b => pGe a b).map .bool) := fun d z => by
  obtain ⟨c, zz, e0⟩ := om z
  clear z
  have z := zz
  clear zz
  subst e0
  obtain ⟨a, h1, z⟩ := ob z
  obtain ⟨b, h2, z⟩ := ob z
  have ha := ha a h1
  have hb := hb b h2
  unfold pGe at z
  split at z
  · cases z; exact dx_ge ha hb
  · cases z
theorem ot_eq (am : Am X lv) (ha : OX X e ρ ea ma) (hb : OX X e ρ eb mb) : OT X e ρ (.Compare ea [.Eq] [eb] pos) (ma.bind fun a => mb.bind fun b => pEq a b) := fun d z => by
  obtain ⟨a, h1, z⟩ := ob z
  obtain ⟨b, h2, z⟩ := ob z
  obtain ⟨hz, z⟩ := oi z
  cases z
  rw [Bool.and_eq_true] at hz
  exact dt_eqD am.room (ha a h1) (hb b h2) hz.1 hz.2
theorem ot_ne (am : Am X lv) (ha : OX X e ρ ea ma) (hb : OX X e ρ eb mb) : OT X e ρ (.Compare ea [.NotEq] [eb] pos) ((ma.bind fun a => mb.bind fun b => pEq a b).map (!·)) := fun d z => by
  obtain ⟨c, zz, e0⟩ := om z
  clear z
  have z := zz
  clear zz
  subst e0
  obtain ⟨a, h1, z⟩ := ob z
  obtain ⟨b, h2, z⟩ := ob z
  obtain ⟨hz, z⟩ := oi z
  cases z
  rw [Bool.and_eq_true] at hz
  exact dt_neD am.room (ha a h1) (hb b h2) hz.1 hz.2
theorem ox_eq (am : Am X lv) (ha : OX X e ρ ea ma) (hb : OX X e ρ eb mb) : OX X e ρ (.Compare ea [.Eq] [eb] pos) ((ma.bind fun a => mb.bind fun b => pEq a b).map .bool) := fun d z => by
  obtain ⟨c, zz, e0⟩ := om z
  clear z
  have z := zz
  clear zz
  subst e0
  obtain ⟨a, h1, z⟩ := ob z
  obtain ⟨b, h2, z⟩ := ob z
  obtain ⟨hz, z⟩ := oi z
  cases z
  rw [Bool.and_eq_true] at hz
  exact dx_eqD am.room (ha a h1) (hb b h2) hz.1 hz.2
theorem ox_ne (am : Am X lv) (ha : OX X e ρ ea ma) (hb : OX X e ρ eb mb) : OX X e ρ (.Compare ea [.NotEq] [eb] pos) ((ma.bind fun a => mb.bind fun b => pEq a b).map fun c => .bool (!c)) := fun d z => by
  obtain ⟨c, zz, e0⟩ := om z
  clear z
  have z := zz
  clear zz
  subst e0
  obtain ⟨a, h1, z⟩ := ob z
  obtain ⟨b, h2, z⟩ := ob z
  obtain ⟨hz, z⟩ := oi z
  cases z
  rw [Bool.and_eq_true] at hz
  exact dx_neD am.room (ha a h1) (hb b h2) hz.1 hz.2
theorem ot_in (am : Am X lv) (ha : OX X e ρ ea ma) (hb : OX X e ρ eb mb) (hm : behindInMarks .In eb = false := by rfl) : OT X e ρ (.Compare ea [.In] [eb] pos) (ma.bind fun a => mb.bind fun b => pIn a b) := fun d z => by
  obtain ⟨a, h1, z⟩ := ob z
  obtain ⟨b, h2, z⟩ := ob z
  have ha := ha a h1
  have hb := hb b h2
  unfold pIn at z
  split at z
  · obtain ⟨hz, z⟩ := oi z
    cases z
    rw [Bool.and_eq_true] at hz
    exact dt_inD am.room ha hb hz.1 hz.2 hm
  · obtain ⟨hz, z⟩ := oi z
    cases z
    rw [Bool.and_eq_true] at hz
    exact dt_inFT ha hb hz.1 hz.2 hm
  · cases z
theorem ot_notIn (am : Am X lv) (ha : OX X e ρ ea ma) (hb : OX X e ρ eb mb) (hm : behindInMarks .NotIn eb = false := by rfl) : OT X e ρ (.Compare ea [.NotIn] [eb] pos) ((ma.bind fun a => mb.bind fun b => pIn a b).map (!·)) := fun d z => by
  obtain ⟨c, zz, e0⟩ := om z
  clear z
  have z := zz
  clear zz
  subst e0
  obtain ⟨a, h1, z⟩ := ob z
  obtain ⟨b, h2, z⟩ := ob z
  have ha := ha a h1
  have hb := hb b h2
  unfold pIn at z
  split at z
  · obtain ⟨hz, z⟩ := oi z
    cases z
    rw [Bool.and_eq_true] at hz
    exact dt_notInD am.room ha hb hz.1 hz.2 hm
  · obtain ⟨hz, z⟩ := oi z
    cases z
    rw [Bool.and_eq_true] at hz
    exact dt_notInFT ha hb hz.1 hz.2 hm
  · cases z
theorem ox_in (am : Am X lv) (ha : OX X e ρ ea ma) (hb : OX X e ρ eb mb) (hm : behindInMarks .In eb = false := by rfl) : OX X e ρ (.Compare ea [.In] [eb] pos) ((ma.bind fun a => mb.bind fun b => pIn a b).map .bool) := fun d z => by
  obtain ⟨c, zz, e0⟩ := om z
  clear z
  have z := zz
  clear zz
  subst e0
  obtain ⟨a, h1, z⟩ := ob z
  obtain ⟨b, h2, z⟩ := ob z
  have ha := ha a h1
  have hb := hb b h2
  unfold pIn at z
  split at z
  · obtain ⟨hz, z⟩ := oi z
    cases z
    rw [Bool.and_eq_true] at hz
    exact dx_inD am.room ha hb hz.1 hz.2 hm
  · obtain ⟨hz, z⟩ := oi z
    cases z
    rw [Bool.and_eq_true] at hz
    exact dx_inFT ha hb hz.1 hz.2 hm
  · cases z
theorem ot_isN {j q} (ha : OX X e ρ ea ma) : OT X e ρ (.Compare ea [.Is] [.Constant .none j q] pos) (ma.map isNone) := fun d z => by
  obtain ⟨a, h1, rfl⟩ := om z
  exact dt_isN (ha a h1)
theorem ot_notN {j q} (ha : OX X e ρ ea ma) : OT X e ρ (.Compare ea [.IsNot] [.Constant .none j q] pos) (ma.map fun a => !isNone a) := fun d z => by
  obtain ⟨a, h1, rfl⟩ := om z
  exact dt_notN (ha a h1)
theorem ox_isN {j q} (ha : OX X e ρ ea ma) : OX X e ρ (.Compare ea [.Is] [.Constant .none j q] pos) (ma.map fun a => .bool (isNone a)) := fun d z => by
  obtain ⟨a, h1, rfl⟩ := om z
  exact dx_isN (ha a h1)
theorem ox_notN {j q} (ha : OX X e ρ ea ma) : OX X e ρ (.Compare ea [.IsNot] [.Constant .none j q] pos) (ma.map fun a => .bool (!isNone a)) := fun d z => by
  obtain ⟨a, h1, rfl⟩ := om z
  exact dx_notN (ha a h1)
theorem ot_val (ha : OX X e ρ ea ma) (he : ∀ whole, isTrue ea X.env whole = (do let v ← whole; standAt ea.pos; holding [v] (truthy v)) := by intro _; rfl) : OT X e ρ ea (ma.bind pB) := fun b z => by
  obtain ⟨a, h1, z⟩ := ob z
  have ha := ha a h1
  unfold pB at z
  split at z
  · cases z; exact dt_val ha he
  · cases z
theorem ow_and1 (h : OT X e ρ ea ta) : OW X e ρ (.BoolOp .And [ea] pos) ta := fun b z => dw_and1 (h b z)
theorem ow_or1 (h : OT X e ρ ea ta) : OW X e ρ (.BoolOp .Or [ea] pos) ta := fun b z => dw_or1 (h b z)
theorem ow_and {rest : List Expr} (h : OT X e ρ ea ta) (h2 : OW X e ρ (.BoolOp .And (eb :: rest) pos) tb) : OW X e ρ (.BoolOp .And (ea :: eb :: rest) pos) (ta.bind fun a => bif a then tb else some false) := fun b z => by
  obtain ⟨a, h1, z⟩ := ob z
  cases a with
  | true =>
    have := dw_and (pos := pos) (c := b) (h true h1) fun _ => h2 b z
    simpa using this
  | false =>
    cases z
    exact dw_and (pos := pos) (c := false) (h false h1) fun z => by cases z
theorem ow_or {rest : List Expr} (h : OT X e ρ ea ta) (h2 : OW X e ρ (.BoolOp .Or (eb :: rest) pos) tb) : OW X e ρ (.BoolOp .Or (ea :: eb :: rest) pos) (ta.bind fun a => bif a then some true else tb) := fun b z => by
  obtain ⟨a, h1, z⟩ := ob z
  cases a with
  | false =>
    have := dw_or (pos := pos) (c := b) (h false h1) fun _ => h2 b z
    simpa using this
  | true =>
    cases z
    exact dw_or (pos := pos) (c := true) (h true h1) fun z => by cases z
theorem ot_w (h : OW X e ρ ex ta) : OT X e ρ ex ta := fun b z => dt_w (h b z)
theorem ot_not (h : OT X e ρ ea ta) : OT X e ρ (.UnaryOp .Not ea pos) (ta.map (!·)) := fun b z => by
  obtain ⟨a, h1, rfl⟩ := om z
  exact dt_not (h a h1)
theorem ox_not (h : OX X e ρ ea ma) : OX X e ρ (.UnaryOp .Not ea pos) ((ma.bind pB).map fun a => .bool (!a)) := fun d z => by
  obtain ⟨a, h1, rfl⟩ := om z
  obtain ⟨b, h2, z⟩ := ob h1
  have h := h b h2
  unfold pB at z
  split at z
  · cases z; exact dx_not h
  · cases z
theorem ox_one {op} (h : OX X e ρ ea ma) : OX X e ρ (.BoolOp op [ea] pos) ma := fun d z => dx_one (h d z)
theorem pB_some {m : OP} {b : Bool} (h : m.bind pB = some b) : m = some (.bool b) := by
  obtain ⟨a, h1, h2⟩ := ob h
  unfold pB at h2
  split at h2
  · cases h2; exact h1
  · cases h2
theorem ox_and {rest : List Expr} (h : OX X e ρ ea ma) (h2 : OX X e ρ (.BoolOp .And (eb :: rest) pos) mb) : OX X e ρ (.BoolOp .And (ea :: eb :: rest) pos) ((ma.bind pB).bind fun a => bif a then (mb.bind pB).map .bool else some (.bool false)) := fun d z => by
  obtain ⟨a, h1, h3⟩ := ob z
  have h := h _ (pB_some h1)
  cases a with
  | true =>
    obtain ⟨b, h4, e0⟩ := om (show (mb.bind pB).map PyData.bool = some d from h3)
    have := dx_and (pos := pos) (c := b) h fun _ => h2 _ (pB_some h4)
    rw [Bool.true_and, e0] at this
    exact this
  | false =>
    cases h3
    exact dx_and (pos := pos) (c := false) h fun z => by cases z
theorem ox_or {rest : List Expr} (h : OX X e ρ ea ma) (h2 : OX X e ρ (.BoolOp .Or (eb :: rest) pos) mb) : OX X e ρ (.BoolOp .Or (ea :: eb :: rest) pos) ((ma.bind pB).bind fun a => bif a then some (.bool true) else (mb.bind pB).map .bool) := fun d z => by
  obtain ⟨a, h1, h3⟩ := ob z
  have h := h _ (pB_some h1)
  cases a with
  | false =>
    obtain ⟨b, h4, e0⟩ := om (show (mb.bind pB).map PyData.bool = some d from h3)
    have := dx_or (pos := pos) (c := b) h fun _ => h2 _ (pB_some h4)
    rw [Bool.false_or, e0] at this
    exact this
  | true =>
    cases h3
    exact dx_or (pos := pos) (c := true) h fun z => by cases z
theorem ox_if (h : OT X e ρ ec ta) (h1 : OX X e ρ ea ma) (h2 : OX X e ρ eb mb) : OX X e ρ (.IfExp ec ea eb pos) (ta.bind fun c => bif c then ma else mb) := fun d z => by
  obtain ⟨c, h3, z⟩ := ob z
  cases c with
  | true =>
    have := dx_ifP (pos := pos) (ea := ea) (eb := eb) (d1 := d) (d2 := d) (h true h3) (fun _ => h1 d z) fun z => by cases z
    exact this
  | false =>
    have := dx_ifP (pos := pos) (ea := ea) (eb := eb) (d1 := d) (d2 := d) (h false h3) (fun z => by cases z) fun _ => h2 d z
    exact this
end
end Ov
set_option Elab.async false
set_option linter.all false
set_option maxRecDepth 100000
set_option maxHeartbeats 1000000
namespace Ov
open PySem PySem.Spec PyProof.Rows L2
section
variable {X : Cx} {e : En} {ρ : Rho} {ea eb ec ex tg : Expr} {es : List Expr} {pos p p2 p3 : Pos} {lv : Nat} {ma mb mc : OP} {ta tb : Option Bool}
/-! ### items, slices, displays -/
theorem ox_ix (ha : OX X e ρ ea ma) (hb : OX X e ρ eb mb) (hs : PlainIx eb := by exact fun _ _ => rfl) : OX X e ρ (.Subscript ea eb pos) (ma.bind fun a => mb.bind fun b => pIx a b) := fun d z => by
  obtain ⟨a, h1, z⟩ := ob z
  obtain ⟨b, h2, z⟩ := ob z
  have ha := ha a h1
  have hb := hb b h2
  unfold pIx at z
  split at z
  · exact dx_ixL ha hb z hs
  · exact dx_ixT ha hb z hs
  · cases z
theorem oq_no : OQ X e ρ none (some none) := fun _ z => by cases z; exact dp_no
theorem pInt_some {m : OP} {i : Int} (h : m.bind pInt = some i) : m = some (.int i) := by
  obtain ⟨a, h1, h2⟩ := ob h
  unfold pInt at h2
  split at h2
  · cases h2; exact h1
  · cases h2
theorem oq_so (h : OX X e ρ ex ma) : OQ X e ρ (some ex) ((ma.bind pInt).map some) := fun i z => by
  obtain ⟨j, h1, e0⟩ := om z
  subst e0
  exact dp_so (h _ (pInt_some h1))
theorem ox_sl {lo hi : Option Expr} {ml mh : Option (Option Int)} (ha : OX X e ρ ex ma) (hl : OQ X e ρ lo ml) (hh : OQ X e ρ hi mh) : OX X e ρ (.Subscript ex (.Slice lo hi none p2) pos) (ma.bind fun a => ml.bind fun i => mh.bind fun j => pSl a i j) := fun d z => by
  obtain ⟨a, h1, z⟩ := ob z
  obtain ⟨i, h2, z⟩ := ob z
  obtain ⟨j, h3, z⟩ := ob z
  have ha := ha a h1
  unfold pSl at z
  split at z
  · cases z; exact dx_fz (dx_slL ha (hl _ h2) (hh _ h3))
  · cases z; exact dx_slT ha (hl _ h2) (hh _ h3)
  · cases z
theorem om_sl {lo hi : Option Expr} {ml mh : Option (Option Int)} {ds : List PyData} (ha : OX X e ρ ex (some (.list ds))) (hl : OQ X e ρ lo ml) (hh : OQ X e ρ hi mh) : OM X e ρ (.Subscript ex (.Slice lo hi none p2) pos) (ml.bind fun i => mh.map fun j => cut ds i j) := fun d z => by
  obtain ⟨i, h2, z⟩ := ob z
  obtain ⟨j, h3, e0⟩ := om z
  subst e0
  exact dx_slL (ha _ rfl) (hl _ h2) (hh _ h3)
theorem ox_rev {j : Nat} {p4 : Pos} (ha : OX X e ρ ex ma) : OX X e ρ (.Subscript ex (.Slice none none (some (.UnaryOp .USub (.Constant (.int 1) j p2) p3)) p4) pos) (ma.bind pRev) := fun d z => by
  obtain ⟨a, h1, z⟩ := ob z
  have ha := ha a h1
  unfold pRev at z
  split at z
  · cases z; exact dx_fz (dx_revL ha)
  · cases z; exact dx_revT ha
  · cases z
theorem oa_nil : OA X e ρ [] (some []) := fun _ z => by cases z; exact da_nil
theorem oa_cons {ms : Option (List PyData)} (h : OX X e ρ ex ma) (t : OA X e ρ es ms) (hs : starEach (ex :: es) X.env = (false, eval ex X.env) :: starEach es X.env := by rfl) : OA X e ρ (ex :: es) (ma.bind fun a => ms.map (a :: ·)) := fun ds z => by
  obtain ⟨a, h1, z⟩ := ob z
  obtain ⟨as, h2, e0⟩ := om z
  subst e0
  exact da_cons (h a h1) (t as h2) hs
theorem ox_tup {ms : Option (List PyData)} {x1} (h : OA X e ρ es ms) (hz : es.length ≤ 1000 := by decide) : OX X e ρ (.Tuple es x1 pos) (ms.bind fun ds => if ds.length ≤ 1000 then some (.tuple ds) else none) := fun d z => by
  obtain ⟨ds, h1, z⟩ := ob z
  obtain ⟨hz, z⟩ := oi z
  cases z
  exact dx_tup (h ds h1) (by rw [sizeLine_eq]; omega)
theorem om_lst {ms : Option (List PyData)} (h : OA X e ρ es ms) : OM X e ρ (.List es pos) (ms.bind fun ds => if ds.length ≤ 1000 then some ds else none) := fun d z => by
  obtain ⟨ds, h1, z2⟩ := ob z
  obtain ⟨hz, z3⟩ := oi z2
  obtain rfl := Option.some.inj z3
  exact dx_lst (h ds h1) (by rw [sizeLine_eq]; omega)
theorem zas_pa {a : PyData} {x : Bool × List PyData} (h : pZa a = some x) : a = sq x.1 x.2 := by
  unfold pZa at h
  split at h
  · cases h; rfl
  · cases h; rfl
  · cases h
/-! ### built-ins -/
section
variable (am : Am X lv)
theorem Am.m (am : Am X lv) {x : Str} (h : x ∈ blts := by decide) : X.mg x = none := am.bl x h
include am
theorem ox_len (ha : OX X e ρ ea ma) (hg : Gl X "len" := by rfl) (he : starEach [ea] X.env = (false, eval ea X.env) :: starEach [] X.env := by rfl) : OX X e ρ (.Call (.Name "len" p) [ea] [] pos) (ma.bind pLen) := fun d z => by
  obtain ⟨a, h1, z⟩ := ob z
  have ha := ha a h1
  unfold pLen at z
  split at z
  · cases z; exact dx_lenL ha am.m hg he
  · cases z; exact dx_lenT (x := "len") ha am.m hg he
  · cases z
theorem ox_list (ha : OX X e ρ ea ma) (hg : Gl X "list" := by rfl) (he : starEach [ea] X.env = (false, eval ea X.env) :: starEach [] X.env := by rfl) : OM X e ρ (.Call (.Name "list" p) [ea] [] pos) (ma.bind pIt) := fun d z => by
  obtain ⟨a, h1, z⟩ := ob z
  have ha := ha a h1
  unfold pIt at z
  split at z
  · cases z; exact dx_listOf (c := false) ha am.m hg he
  · cases z; exact dx_listOf (c := true) ha am.m hg he
  · cases z
theorem ox_tuple (ha : OX X e ρ ea ma) (hg : Gl X "tuple" := by rfl) (he : starEach [ea] X.env = (false, eval ea X.env) :: starEach [] X.env := by rfl) : OX X e ρ (.Call (.Name "tuple" p) [ea] [] pos) (ma.bind pTup) := fun d z => by
  obtain ⟨a, h1, z⟩ := ob z
  have ha := ha a h1
  unfold pTup at z
  split at z
  · cases z; exact dx_tupleL ha am.m hg he
  · cases z; exact dx_tupleT ha am.m hg he
  · cases z
theorem ox_sortI (ha : OX X e ρ ea ma) (hg : Gl X "sorted" := by rfl) (he : starEach [ea] X.env = (false, eval ea X.env) :: starEach [] X.env := by rfl) : OM X e ρ (.Call (.Name "sorted" p) [ea] [] pos) (ma.bind pSortI) := fun d z => by
  obtain ⟨a, h1, z⟩ := ob z
  have ha := ha a h1
  unfold pSortI at z
  split at z
  · obtain ⟨ns, h2, e0⟩ := om z
    subst e0
    rw [pInts_eq h2] at ha
    exact dx_sortL ha am.m hg he
  · obtain ⟨ns, h2, e0⟩ := om z
    subst e0
    rw [pInts_eq h2] at ha
    exact dx_sortT ha am.m hg he
  · cases z
theorem ox_max2 (ha : OX X e ρ ea ma) (hb : OX X e ρ eb mb) (hg : Gl X "max" := by rfl) (he : starEach [ea, eb] X.env = (false, eval ea X.env) :: starEach [eb] X.env := by rfl) (he2 : starEach [eb] X.env = (false, eval eb X.env) :: starEach [] X.env := by rfl) : OX X e ρ (.Call (.Name "max" p) [ea, eb] [] pos) (ma.bind fun a => mb.bind fun b => pMax a b) := fun d z => by
  obtain ⟨a, h1, z⟩ := ob z
  obtain ⟨b, h2, z⟩ := ob z
  have ha := ha a h1
  have hb := hb b h2
  unfold pMax at z
  split at z
  · cases z; exact dx_max2 am.calm ha hb am.m hg he he2
  · cases z
theorem ox_min2 (ha : OX X e ρ ea ma) (hb : OX X e ρ eb mb) (hg : Gl X "min" := by rfl) (he : starEach [ea, eb] X.env = (false, eval ea X.env) :: starEach [eb] X.env := by rfl) (he2 : starEach [eb] X.env = (false, eval eb X.env) :: starEach [] X.env := by rfl) : OX X e ρ (.Call (.Name "min" p) [ea, eb] [] pos) (ma.bind fun a => mb.bind fun b => pMin a b) := fun d z => by
  obtain ⟨a, h1, z⟩ := ob z
  obtain ⟨b, h2, z⟩ := ob z
  have ha := ha a h1
  have hb := hb b h2
  unfold pMin at z
  split at z
  · cases z; exact dx_min2 am.calm ha hb am.m hg he he2
  · cases z
theorem ox_abs (ha : OX X e ρ ea ma) (hg : Gl X "abs" := by rfl) (he : starEach [ea] X.env = (false, eval ea X.env) :: starEach [] X.env := by rfl) : OX X e ρ (.Call (.Name "abs" p) [ea] [] pos) (ma.bind pAbs) := fun d z => by
  obtain ⟨a, h1, z⟩ := ob z
  have ha := ha a h1
  unfold pAbs at z
  split at z
  · cases z; exact dx_abs ha am.m hg he
  · cases z
theorem ox_toI (ha : OX X e ρ ea ma) (hg : Gl X "int" := by rfl) (he : starEach [ea] X.env = (false, eval ea X.env) :: starEach [] X.env := by rfl) : OX X e ρ (.Call (.Name "int" p) [ea] [] pos) (ma.bind pToI) := fun d z => by
  obtain ⟨a, h1, z⟩ := ob z
  have ha := ha a h1
  unfold pToI at z
  split at z
  · cases z; exact dx_intI ha am.m hg he
  · cases z; exact dx_intB ha am.m hg he
  · cases z
theorem ox_sum (ha : OX X e ρ ea ma) (hg : Gl X "sum" := by rfl) (he : starEach [ea] X.env = (false, eval ea X.env) :: starEach [] X.env := by rfl) : OX X e ρ (.Call (.Name "sum" p) [ea] [] pos) (ma.bind pSum) := fun d z => by
  obtain ⟨a, h1, z⟩ := ob z
  have ha := ha a h1
  unfold pSum at z
  split at z
  · obtain ⟨ns, h2, e0⟩ := om z
    subst e0
    rw [pInts_eq h2] at ha
    exact dx_sum am.calm ha am.m hg he
  · cases z
theorem ox_all (ha : OX X e ρ ea ma) (hg : Gl X "all" := by rfl) (he : starEach [ea] X.env = (false, eval ea X.env) :: starEach [] X.env := by rfl) : OX X e ρ (.Call (.Name "all" p) [ea] [] pos) (ma.bind pAll) := fun d z => by
  obtain ⟨a, h1, z⟩ := ob z
  have ha := ha a h1
  unfold pAll at z
  split at z
  · obtain ⟨ns, h2, e0⟩ := om z
    subst e0
    rw [pBools_eq h2] at ha
    exact dx_all am.calm ha am.m hg he
  · cases z
theorem ox_any (ha : OX X e ρ ea ma) (hg : Gl X "any" := by rfl) (he : starEach [ea] X.env = (false, eval ea X.env) :: starEach [] X.env := by rfl) : OX X e ρ (.Call (.Name "any" p) [ea] [] pos) (ma.bind pAny) := fun d z => by
  obtain ⟨a, h1, z⟩ := ob z
  have ha := ha a h1
  unfold pAny at z
  split at z
  · obtain ⟨ns, h2, e0⟩ := om z
    subst e0
    rw [pBools_eq h2] at ha
    exact dx_any am.calm ha am.m hg he
  · cases z
theorem ox_index {apos : Pos} (ha : OX X e ρ ea ma) (hb : OX X e ρ eb mb) (hbase : attributeBase ea "index" X.env (eval ea X.env) = eval ea X.env := by rfl)
    (hfew : ((backTo pos (starEach [eb] X.env)).all (fun x => !x.1) && (backToKw pos (keywordEach [] X.env)).all (fun x => x.1.isSome) && decide ([eb].length + ([] : List Keyword).length + (if ([] : List Keyword).isEmpty then 0 else 1) < 30)) = true := by rfl)
    (hline : (apos.endLine == pos.line) = true := by rfl) (hs : starEach [eb] X.env = (false, eval eb X.env) :: starEach [] X.env := by rfl) : OX X e ρ (.Call (.Attribute ea "index" apos) [eb] [] pos) (ma.bind fun a => mb.bind fun b => pIndex a b) := fun d z => by
  obtain ⟨a, h1, z⟩ := ob z
  obtain ⟨b, h2, z⟩ := ob z
  have ha := ha a h1
  have hb := hb b h2
  unfold pIndex at z
  split at z
  · obtain ⟨hz, z⟩ := oi z
    rw [Bool.and_eq_true] at hz
    obtain ⟨j, h3, e0⟩ := om z
    subst e0
    exact dx_indexD am.room ha hb hz.1 hz.2 h3 hbase hfew hline hs (by rfl)
  · cases z
/-- tuple(range(..)), list(range(..)) -/
theorem ox_tupRg1 {q : Pos} (ha : OX X e ρ ea ma) (hg : Gl X "tuple" := by rfl) (hg2 : Gl X "range" := by rfl) (he : starEach [ea] X.env = (false, eval ea X.env) :: starEach [] X.env := by rfl) (he2 : starEach [.Call (.Name "range" p2) [ea] [] q] X.env = (false, eval (.Call (.Name "range" p2) [ea] [] q) X.env) :: starEach [] X.env := by rfl) : OX X e ρ (.Call (.Name "tuple" p) [.Call (.Name "range" p2) [ea] [] q] [] pos) (ma.bind fun a => (pRg (.int 0) a).map .tuple) := fun d z => by
  obtain ⟨a, h1, z⟩ := ob z
  obtain ⟨ds, h2, e0⟩ := om z
  have ha := ha a h1
  subst e0
  cases a <;> simp only [pRg] at h2 <;> try (cases h2; done)
  obtain ⟨hz, h2⟩ := oi h2
  cases h2
  exact dx_tupRg am.calm (dr_1 ha am.m hg2 he) ⟨by omega, by omega, by omega, by omega, by omega⟩ am.m hg he2
theorem ox_tupRg2 {q : Pos} (ha : OX X e ρ ea ma) (hb : OX X e ρ eb mb) (hg : Gl X "tuple" := by rfl) (hg2 : Gl X "range" := by rfl) (he : starEach [ea, eb] X.env = (false, eval ea X.env) :: starEach [eb] X.env := by rfl) (he1 : starEach [eb] X.env = (false, eval eb X.env) :: starEach [] X.env := by rfl) (he2 : starEach [.Call (.Name "range" p2) [ea, eb] [] q] X.env = (false, eval (.Call (.Name "range" p2) [ea, eb] [] q) X.env) :: starEach [] X.env := by rfl) : OX X e ρ (.Call (.Name "tuple" p) [.Call (.Name "range" p2) [ea, eb] [] q] [] pos) (ma.bind fun a => mb.bind fun b => (pRg a b).map .tuple) := fun d z => by
  obtain ⟨a, h1, z⟩ := ob z
  obtain ⟨b, h3, z⟩ := ob z
  obtain ⟨ds, h2, e0⟩ := om z
  have ha := ha a h1
  have hb := hb b h3
  subst e0
  unfold pRg at h2
  split at h2
  · obtain ⟨hz, h2⟩ := oi h2
    cases h2
    exact dx_tupRg am.calm (dr_2 ha hb am.m hg2 he he1) ⟨by omega, by omega, by omega, by omega, by omega⟩ am.m hg he2
  · cases h2
theorem om_listRg1 {q : Pos} (ha : OX X e ρ ea ma) (hg : Gl X "list" := by rfl) (hg2 : Gl X "range" := by rfl) (he : starEach [ea] X.env = (false, eval ea X.env) :: starEach [] X.env := by rfl) (he2 : starEach [.Call (.Name "range" p2) [ea] [] q] X.env = (false, eval (.Call (.Name "range" p2) [ea] [] q) X.env) :: starEach [] X.env := by rfl) : OM X e ρ (.Call (.Name "list" p) [.Call (.Name "range" p2) [ea] [] q] [] pos) (ma.bind fun a => pRg (.int 0) a) := fun ds z => by
  obtain ⟨a, h1, h2⟩ := ob z
  have ha := ha a h1
  cases a <;> simp only [pRg] at h2 <;> try (cases h2; done)
  obtain ⟨hz, h2⟩ := oi h2
  cases h2
  exact dx_listRg am.calm (dr_1 ha am.m hg2 he) ⟨by omega, by omega, by omega, by omega, by omega⟩ am.m hg he2
theorem om_listRg2 {q : Pos} (ha : OX X e ρ ea ma) (hb : OX X e ρ eb mb) (hg : Gl X "list" := by rfl) (hg2 : Gl X "range" := by rfl) (he : starEach [ea, eb] X.env = (false, eval ea X.env) :: starEach [eb] X.env := by rfl) (he1 : starEach [eb] X.env = (false, eval eb X.env) :: starEach [] X.env := by rfl) (he2 : starEach [.Call (.Name "range" p2) [ea, eb] [] q] X.env = (false, eval (.Call (.Name "range" p2) [ea, eb] [] q) X.env) :: starEach [] X.env := by rfl) : OM X e ρ (.Call (.Name "list" p) [.Call (.Name "range" p2) [ea, eb] [] q] [] pos) (ma.bind fun a => mb.bind fun b => pRg a b) := fun ds z => by
  obtain ⟨a, h1, z⟩ := ob z
  obtain ⟨b, h3, h2⟩ := ob z
  have ha := ha a h1
  have hb := hb b h3
  unfold pRg at h2
  split at h2
  · obtain ⟨hz, h2⟩ := oi h2
    cases h2
    exact dx_listRg am.calm (dr_2 ha hb am.m hg2 he he1) ⟨by omega, by omega, by omega, by omega, by omega⟩ am.m hg he2
  · cases h2
/-! ### what is walked -/
theorem oi_x (ha : OX X e ρ ex ma) : OI X e ρ tg ex (ma.bind pIt) := fun ds z => by
  obtain ⟨a, h1, z⟩ := ob z
  have ha := ha a h1
  unfold pIt at z
  split at z
  · cases z; exact di_list ha
  · cases z; exact di_tup ha
  · cases z
theorem oi_m {m : Option (List PyData)} (ha : OM X e ρ ex m) : OI X e ρ tg ex m := fun ds z => di_list (dx_fz (ha ds z))
theorem oi_rg1 (ha : OX X e ρ ea ma) (hg : Gl X "range" := by rfl) (he : starEach [ea] X.env = [(false, eval ea X.env)] := by rfl) : OI X e ρ tg (.Call (.Name "range" p) [ea] [] pos) (ma.bind fun a => pRg (.int 0) a) := fun ds z => by
  obtain ⟨a, h1, h2⟩ := ob z
  have ha := ha a h1
  cases a <;> simp only [pRg] at h2 <;> try (cases h2; done)
  obtain ⟨hz, h2⟩ := oi h2
  cases h2
  rw [Int.sub_zero]
  exact di_rng1 ha am.m (by omega) (by omega) hg he
theorem oi_rg2 (ha : OX X e ρ ea ma) (hb : OX X e ρ eb mb) (hg : Gl X "range" := by rfl) (he : starEach [ea, eb] X.env = [(false, eval ea X.env), (false, eval eb X.env)] := by rfl) (he2 : starEach [eb] X.env = [(false, eval eb X.env)] := by rfl) : OI X e ρ tg (.Call (.Name "range" p) [ea, eb] [] pos) (ma.bind fun a => mb.bind fun b => pRg a b) := fun ds z => by
  obtain ⟨a, h1, z⟩ := ob z
  obtain ⟨b, h3, h2⟩ := ob z
  have ha := ha a h1
  have hb := hb b h3
  unfold pRg at h2
  split at h2
  · obtain ⟨hz, h2⟩ := oi h2
    cases h2
    exact di_rng2 ha hb am.m ⟨by omega, by omega, by omega, by omega⟩ (by omega) hg he he2
  · cases h2
theorem oi_en {elts : List Expr} {kk : Nat} {tpos : Pos} (ha : OX X e ρ ea ma) (hg : Gl X "enumerate" := by rfl) (hs : starEach [ea] X.env = [(false, eval ea X.env)] := by rfl) : OI X e ρ (.Tuple elts kk tpos) (.Call (.Name "enumerate" p) [ea] [] pos) (ma.bind pEn) := fun ds z => by
  obtain ⟨a, h1, z⟩ := ob z
  have ha := ha a h1
  unfold pEn at z
  split at z
  · cases z; exact di_enum ha am.m hg hs
  · cases z
theorem oi_z2 {elts : List Expr} {kk : Nat} {tpos : Pos} (ha : OX X e ρ ea ma) (hb : OX X e ρ eb mb) (hg : Gl X "zip" := by rfl)
    (hs : starEach [ea, eb] X.env = (false, eval ea X.env) :: starEach [eb] X.env := by rfl) (hs2 : starEach [eb] X.env = (false, eval eb X.env) :: starEach [] X.env := by rfl) (hpl : (backTo pos (starEach [eb] X.env)).any (·.1) = false := by rfl) : OI X e ρ (.Tuple elts kk tpos) (.Call (.Name "zip" p) [ea, eb] [] pos) (ma.bind fun a => mb.bind fun b => pZ2 a b) := fun ds z => by
  obtain ⟨a, h1, z⟩ := ob z
  obtain ⟨b, h2, z⟩ := ob z
  obtain ⟨x, h3, z⟩ := ob z
  obtain ⟨y, h4, z⟩ := ob z
  obtain ⟨hz, z⟩ := oi z
  cases z
  have ha := ha a h1
  have hb := hb b h2
  rw [zas_pa h3] at ha
  rw [zas_pa h4] at hb
  simp only [Bool.and_eq_true, beq_iff_eq, decide_eq_true_eq] at hz
  exact di_zip (as := [x, y]) (da_cons ha (da_cons hb da_nil hs2) hs) (.inl rfl) (by simp [hz.1]) am.m hg hs hpl
theorem oi_z2S {elts : List Expr} {kk j : Nat} {tpos : Pos} (ha : OX X e ρ ea ma) (hb : OX X e ρ eb mb) (hg : Gl X "zip" := by rfl)
    (hs : starEach [ea, eb] X.env = (false, eval ea X.env) :: starEach [eb] X.env := by rfl) (hs2 : starEach [eb] X.env = (false, eval eb X.env) :: starEach [] X.env := by rfl) (he : backTo pos (starEach [ea, eb] X.env) = (false, eval ea X.env) :: backTo pos (starEach [eb] X.env) := by rfl) (hpl : (backTo pos (starEach [ea, eb] X.env)).any (·.1) = false := by rfl) : OI X e ρ (.Tuple elts kk tpos) (.Call (.Name "zip" p) [ea, eb] [⟨some "strict", .Constant (.bool true) j p2, p3⟩] pos) (ma.bind fun a => mb.bind fun b => pZ2 a b) := fun ds z => by
  obtain ⟨a, h1, z⟩ := ob z
  obtain ⟨b, h2, z⟩ := ob z
  obtain ⟨x, h3, z⟩ := ob z
  obtain ⟨y, h4, z⟩ := ob z
  obtain ⟨hz, z⟩ := oi z
  cases z
  have ha := ha a h1
  have hb := hb b h2
  rw [zas_pa h3] at ha
  rw [zas_pa h4] at hb
  simp only [Bool.and_eq_true, beq_iff_eq, decide_eq_true_eq] at hz
  exact di_zipS (as := [x, y]) (da_cons ha (da_cons hb da_nil hs2) hs) (.inl rfl) (by simp [hz.1]) am.m hg he hpl
theorem oi_z3S {elts : List Expr} {kk j : Nat} {tpos : Pos} (ha : OX X e ρ ea ma) (hb : OX X e ρ eb mb) (hc : OX X e ρ ec mc) (hg : Gl X "zip" := by rfl)
    (hs : starEach [ea, eb, ec] X.env = (false, eval ea X.env) :: starEach [eb, ec] X.env := by rfl) (hs2 : starEach [eb, ec] X.env = (false, eval eb X.env) :: starEach [ec] X.env := by rfl) (hs3 : starEach [ec] X.env = (false, eval ec X.env) :: starEach [] X.env := by rfl) (he : backTo pos (starEach [ea, eb, ec] X.env) = (false, eval ea X.env) :: backTo pos (starEach [eb, ec] X.env) := by rfl) (hpl : (backTo pos (starEach [ea, eb, ec] X.env)).any (·.1) = false := by rfl) : OI X e ρ (.Tuple elts kk tpos) (.Call (.Name "zip" p) [ea, eb, ec] [⟨some "strict", .Constant (.bool true) j p2, p3⟩] pos) (ma.bind fun a => mb.bind fun b => mc.bind fun c => pZ3 a b c) := fun ds z => by
  obtain ⟨a, h1, z⟩ := ob z
  obtain ⟨b, h2, z⟩ := ob z
  obtain ⟨c, h5, z⟩ := ob z
  obtain ⟨x, h3, z⟩ := ob z
  obtain ⟨y, h4, z⟩ := ob z
  obtain ⟨w, h6, z⟩ := ob z
  obtain ⟨hz, z⟩ := oi z
  cases z
  have ha := ha a h1
  have hb := hb b h2
  have hc := hc c h5
  rw [zas_pa h3] at ha
  rw [zas_pa h4] at hb
  rw [zas_pa h6] at hc
  simp only [Bool.and_eq_true, beq_iff_eq, decide_eq_true_eq] at hz
  exact di_zipS (as := [x, y, w]) (da_cons ha (da_cons hb (da_cons hc da_nil hs3) hs2) hs) (.inr rfl) (by simp [hz.1]) am.m hg he hpl
theorem om_lz2S {j : Nat} {p1 pos1 : Pos} (ha : OX X e ρ ea ma) (hb : OX X e ρ eb mb) (hgl : Gl X "list" := by rfl) (hg : Gl X "zip" := by rfl)
    (hs : starEach [ea, eb] X.env = (false, eval ea X.env) :: starEach [eb] X.env := by rfl) (hs2 : starEach [eb] X.env = (false, eval eb X.env) :: starEach [] X.env := by rfl) (he : backTo pos1 (starEach [ea, eb] X.env) = (false, eval ea X.env) :: backTo pos1 (starEach [eb] X.env) := by rfl) (hpl : (backTo pos1 (starEach [ea, eb] X.env)).any (·.1) = false := by rfl)
    (hs1 : starEach [Expr.Call (.Name "zip" p1) [ea, eb] [⟨some "strict", .Constant (.bool true) j p2, p3⟩] pos1] X.env = (false, eval (.Call (.Name "zip" p1) [ea, eb] [⟨some "strict", .Constant (.bool true) j p2, p3⟩] pos1) X.env) :: starEach [] X.env := by rfl) :
    OM X e ρ (.Call (.Name "list" p) [.Call (.Name "zip" p1) [ea, eb] [⟨some "strict", .Constant (.bool true) j p2, p3⟩] pos1] [] pos) (ma.bind fun a => mb.bind fun b => pZ2 a b) := fun ds z => by
  obtain ⟨a, h1, z⟩ := ob z
  obtain ⟨b, h2, z⟩ := ob z
  obtain ⟨x, h3, z⟩ := ob z
  obtain ⟨y, h4, z⟩ := ob z
  obtain ⟨hz, z⟩ := oi z
  cases z
  have ha := ha a h1
  have hb := hb b h2
  rw [zas_pa h3] at ha
  rw [zas_pa h4] at hb
  simp only [Bool.and_eq_true, beq_iff_eq, decide_eq_true_eq] at hz
  exact dx_listZipS (as := [x, y]) am.calm am.m am.m (da_cons ha (da_cons hb da_nil hs2) hs) (.inl rfl) (by simp [hz.1]) (by rw [sizeLine_eq]; exact hz.2) hgl hg he hpl hs1
end
end
end Ov
set_option Elab.async false
set_option linter.all false
set_option maxRecDepth 100000
set_option maxHeartbeats 1000000
namespace Ov
open PySem PySem.Spec PyProof.Rows L2
theorem ixlt {ρ : Rho} {i : Nat} (h : (ρ[i]?).isSome = true) : i < ρ.length := by
  cases q : ρ[i]? with
  | none => rw [q] at h; cases h
  | some o => exact (List.getElem?_eq_some_iff.mp q).1
/-! ### defs of data -/
def rel1 (m : PyData → OP) : Rel := fun ks ks' r => ∃ a v, m a = some v ∧ ks = [.dat a] ∧ ks' = [.dat a] ∧ r = .ret (.dat v)
def rel2 (m : PyData → PyData → OP) : Rel := fun ks ks' r => ∃ a b v, m a b = some v ∧ ks = [.dat a, .dat b] ∧ ks' = [.dat a, .dat b] ∧ r = .ret (.dat v)
def rel3 (m : PyData → PyData → PyData → OP) : Rel := fun ks ks' r => ∃ a b c v, m a b c = some v ∧ ks = [.dat a, .dat b, .dat c] ∧ ks' = [.dat a, .dat b, .dat c] ∧ r = .ret (.dat v)
def rel4 (m : PyData → PyData → PyData → PyData → OP) : Rel := fun ks ks' r => ∃ a b c d v, m a b c d = some v ∧ ks = [.dat a, .dat b, .dat c, .dat d] ∧ ks' = [.dat a, .dat b, .dat c, .dat d] ∧ r = .ret (.dat v)
section
variable {X : Cx} {e : En} {ρ : Rho} {ea eb ec ed ex tg : Expr} {es : List Expr} {pos p : Pos} {lv j : Nat} {ma mb mc md : OP} {x : Str} {ps : List Str}
theorem ox_call1 {m : PyData → OP} (am : Am X lv) (G : Fn X.prog X.w X.K X.mg X.base x ps j (rel1 m)) (hj : j ≤ lv + 1) (ha : OX X e ρ ea ma) (hg : Gl X x := by rfl) (hdb : (x == ("__debug__" : Str)) = false := by decide) (he : starEach [ea] X.env = (false, eval ea X.env) :: starEach [] X.env := by rfl) : OX X e ρ (.Call (.Name x p) [ea] [] pos) (ma.bind m) := fun d z => by
  obtain ⟨a, h1, z⟩ := ob z
  exact dx_callP (ds := [a]) G (am.room.mono hj) (da_cons (ha a h1) da_nil he) ⟨a, d, z, rfl, rfl, rfl⟩ hg hdb he (by rfl)
theorem ox_call2 {m : PyData → PyData → OP} (am : Am X lv) (G : Fn X.prog X.w X.K X.mg X.base x ps j (rel2 m)) (hj : j ≤ lv + 1) (ha : OX X e ρ ea ma) (hb : OX X e ρ eb mb) (hg : Gl X x := by rfl) (hdb : (x == ("__debug__" : Str)) = false := by decide) (he : starEach [ea, eb] X.env = (false, eval ea X.env) :: starEach [eb] X.env := by rfl) (he2 : starEach [eb] X.env = (false, eval eb X.env) :: starEach [] X.env := by rfl) (hpl : (backTo pos (starEach [eb] X.env)).any (·.1) = false := by rfl) : OX X e ρ (.Call (.Name x p) [ea, eb] [] pos) (ma.bind fun a => mb.bind fun b => m a b) := fun d z => by
  obtain ⟨a, h1, z⟩ := ob z
  obtain ⟨b, h2, z⟩ := ob z
  exact dx_callP (ds := [a, b]) G (am.room.mono hj) (da_cons (ha a h1) (da_cons (hb b h2) da_nil he2) he) ⟨a, b, d, z, rfl, rfl, rfl⟩ hg hdb he hpl
theorem ox_call3 {m : PyData → PyData → PyData → OP} (am : Am X lv) (G : Fn X.prog X.w X.K X.mg X.base x ps j (rel3 m)) (hj : j ≤ lv + 1) (ha : OX X e ρ ea ma) (hb : OX X e ρ eb mb) (hc : OX X e ρ ec mc) (hg : Gl X x := by rfl) (hdb : (x == ("__debug__" : Str)) = false := by decide) (he : starEach [ea, eb, ec] X.env = (false, eval ea X.env) :: starEach [eb, ec] X.env := by rfl) (he2 : starEach [eb, ec] X.env = (false, eval eb X.env) :: starEach [ec] X.env := by rfl) (he3 : starEach [ec] X.env = (false, eval ec X.env) :: starEach [] X.env := by rfl) (hpl : (backTo pos (starEach [eb, ec] X.env)).any (·.1) = false := by rfl) : OX X e ρ (.Call (.Name x p) [ea, eb, ec] [] pos) (ma.bind fun a => mb.bind fun b => mc.bind fun c => m a b c) := fun d z => by
  obtain ⟨a, h1, z⟩ := ob z
  obtain ⟨b, h2, z⟩ := ob z
  obtain ⟨c, h3, z⟩ := ob z
  exact dx_callP (ds := [a, b, c]) G (am.room.mono hj) (da_cons (ha a h1) (da_cons (hb b h2) (da_cons (hc c h3) da_nil he3) he2) he) ⟨a, b, c, d, z, rfl, rfl, rfl⟩ hg hdb he hpl
theorem ox_call4 {m : PyData → PyData → PyData → PyData → OP} (am : Am X lv) (G : Fn X.prog X.w X.K X.mg X.base x ps j (rel4 m)) (hj : j ≤ lv + 1) (ha : OX X e ρ ea ma) (hb : OX X e ρ eb mb) (hc : OX X e ρ ec mc) (hd : OX X e ρ ed md) (hg : Gl X x := by rfl) (hdb : (x == ("__debug__" : Str)) = false := by decide) (he : starEach [ea, eb, ec, ed] X.env = (false, eval ea X.env) :: starEach [eb, ec, ed] X.env := by rfl) (he2 : starEach [eb, ec, ed] X.env = (false, eval eb X.env) :: starEach [ec, ed] X.env := by rfl) (he3 : starEach [ec, ed] X.env = (false, eval ec X.env) :: starEach [ed] X.env := by rfl) (he4 : starEach [ed] X.env = (false, eval ed X.env) :: starEach [] X.env := by rfl) (hpl : (backTo pos (starEach [eb, ec, ed] X.env)).any (·.1) = false := by rfl) : OX X e ρ (.Call (.Name x p) [ea, eb, ec, ed] [] pos) (ma.bind fun a => mb.bind fun b => mc.bind fun c => md.bind fun d => m a b c d) := fun v z => by
  obtain ⟨a, h1, z⟩ := ob z
  obtain ⟨b, h2, z⟩ := ob z
  obtain ⟨c, h3, z⟩ := ob z
  obtain ⟨d, h4, z⟩ := ob z
  exact dx_callP (ds := [a, b, c, d]) G (am.room.mono hj) (da_cons (ha a h1) (da_cons (hb b h2) (da_cons (hc c h3) (da_cons (hd d h4) da_nil he4) he3) he2) he) ⟨a, b, c, d, v, z, rfl, rfl, rfl⟩ hg hdb he hpl
/-! ### targets -/
abbrev unP {α β : Type} (f : PyData → Option α) (g : PyData → Option β) : PyData → Option (α × β) := fun d => (u2 d).bind fun p => (f p.1).bind fun a => (g p.2).map fun b => (a, b)
abbrev unT {α β γ : Type} (f : PyData → Option α) (g : PyData → Option β) (h : PyData → Option γ) : PyData → Option (α × β × γ) := fun d => (u3 d).bind fun p => (f p.1).bind fun a => (g p.2.1).bind fun b => (h p.2.2).map fun c => (a, b, c)
theorem og_name (i : Nat) {x : Str} {q : Pos} (am : Am X lv) (hi : (ρ[i]?).isSome = true := by rfl) (hx : X.N[i]? = some x := by rfl) (hv : Loc X.env.scope x := by first | exact Or.inl rfl | exact Or.inr rfl) (hf : X.fn x = true ∨ X.env.scope.names.lookup x = some .local := by first | exact .inl rfl | exact .inr rfl | assumption) : OG X e ρ (.Name x q) some (fun d => ρ.set i (some (.dat d))) [i] := fun d t z => by
  cases z
  exact dg_name i am.nod (ixlt hi) hx hv hf
theorem og_2 {t1 t2 : Expr} {kk : Nat} {τ1 τ2 : Type} {un1 : PyData → Option τ1} {un2 : PyData → Option τ2} {enc1 : τ1 → Rho} {enc2 : τ1 → τ2 → Rho} {ts1 ts2 : List Nat} (am : Am X lv) (h1 : OG X e ρ t1 un1 enc1 ts1) (h2 : ∀ a, OG X e (enc1 a) t2 un2 (enc2 a) ts2)
    (hs : (assignEach [t1, t2] X.env).map (·.2) = assign t1 X.env :: (assignEach [t2] X.env).map (·.2) := by rfl) (hs2 : (assignEach [t2] X.env).map (·.2) = assign t2 X.env :: (assignEach [] X.env).map (·.2) := by rfl) (hn : (assignEach [t1, t2] X.env).length = 2 := by rfl) (hst : (assignEach [t1, t2] X.env).findIdx? (·.1) = none := by rfl) :
    OG X e ρ (.Tuple [t1, t2] kk pos) (unP un1 un2) (fun t => enc2 t.1 t.2) (ts1 ++ (ts2 ++ [])) := fun d t z => by
  obtain ⟨q, z1, z⟩ := ob z
  obtain ⟨a, z2, z⟩ := ob z
  obtain ⟨b, z3, e0⟩ := om z
  subst e0
  unfold u2 at z1
  split at z1
  · cases z1
    exact dg_tup am.calm (dgs_cons (h1 _ a z2) (dgs_cons (h2 a _ b z3) dgs_nil hs2) hs) hn hst
  · cases z1
theorem og_3 {t1 t2 t3 : Expr} {kk : Nat} {τ1 τ2 τ3 : Type} {un1 : PyData → Option τ1} {un2 : PyData → Option τ2} {un3 : PyData → Option τ3} {enc1 : τ1 → Rho} {enc2 : τ1 → τ2 → Rho} {enc3 : τ1 → τ2 → τ3 → Rho} {ts1 ts2 ts3 : List Nat} (am : Am X lv) (h1 : OG X e ρ t1 un1 enc1 ts1) (h2 : ∀ a, OG X e (enc1 a) t2 un2 (enc2 a) ts2) (h3 : ∀ a b, OG X e (enc2 a b) t3 un3 (enc3 a b) ts3)
    (hs : (assignEach [t1, t2, t3] X.env).map (·.2) = assign t1 X.env :: (assignEach [t2, t3] X.env).map (·.2) := by rfl) (hs2 : (assignEach [t2, t3] X.env).map (·.2) = assign t2 X.env :: (assignEach [t3] X.env).map (·.2) := by rfl) (hs3 : (assignEach [t3] X.env).map (·.2) = assign t3 X.env :: (assignEach [] X.env).map (·.2) := by rfl) (hn : (assignEach [t1, t2, t3] X.env).length = 3 := by rfl) (hst : (assignEach [t1, t2, t3] X.env).findIdx? (·.1) = none := by rfl) :
    OG X e ρ (.Tuple [t1, t2, t3] kk pos) (unT un1 un2 un3) (fun t => enc3 t.1 t.2.1 t.2.2) (ts1 ++ (ts2 ++ (ts3 ++ []))) := fun d t z => by
  obtain ⟨q, z1, z⟩ := ob z
  obtain ⟨a, z2, z⟩ := ob z
  obtain ⟨b, z3, z⟩ := ob z
  obtain ⟨c, z4, e0⟩ := om z
  subst e0
  unfold u3 at z1
  split at z1
  · cases z1
    exact dg_tup am.calm (dgs_cons (h1 _ a z2) (dgs_cons (h2 a _ b z3) (dgs_cons (h3 a b _ c z4) dgs_nil hs3) hs2) hs) hn hst
  · cases z1
/-! ### comprehensions -/
def compF {τ : Type} (un : PyData → Option τ) (c : τ → Option Bool) (f : τ → OP) : List PyData → Option (List PyData)
  | [] => some []
  | d :: ds => (un d).bind fun t => (c t).bind fun b => bif b then (f t).bind fun y => (compF un c f ds).map (y :: ·) else compF un c f ds
section
variable {τ : Type} {un : PyData → Option τ} {c : τ → Option Bool} {f : τ → OP}
def cOf (un : PyData → Option τ) (c : τ → Option Bool) (d : PyData) : Bool := ((un d).bind c).getD false
def fOf (un : PyData → Option τ) (f : τ → OP) (d : PyData) : PyData := ((un d).bind f).getD .none
theorem compF_eq : ∀ {ds ys : List PyData}, compF un c f ds = some ys → ys = comp (cOf un c) (fOf un f) ds ∧ ∀ d ∈ ds, ∃ t, un d = some t ∧ c t = some (cOf un c d) ∧ (cOf un c d = true → f t = some (fOf un f d))
  | [], ys, h => by simp [compF] at h; subst h; exact ⟨rfl, by simp⟩
  | d :: ds, ys, h => by
    simp only [compF] at h
    obtain ⟨t, h1, h⟩ := ob h
    obtain ⟨b, h2, h⟩ := ob h
    have hc : cOf un c d = b := by unfold cOf; rw [h1, Option.bind_some, h2]; rfl
    cases b with
    | true =>
      obtain ⟨y, h3, h⟩ := ob (show (f t).bind (fun y => (compF un c f ds).map (y :: ·)) = some ys from h)
      obtain ⟨zs, h4, e0⟩ := om h
      have hf : fOf un f d = y := by unfold fOf; rw [h1, Option.bind_some, h3]; rfl
      obtain ⟨g1, g2⟩ := compF_eq h4
      subst e0
      refine ⟨?_, fun x mx => ?_⟩
      · unfold comp at g1 ⊢
        rw [List.filter_cons, hc, if_pos rfl, List.map_cons, hf, g1]
      · rcases List.mem_cons.mp mx with rfl | mx
        · exact ⟨t, h1, by rw [hc]; exact h2, fun _ => by rw [hf]; exact h3⟩
        · exact g2 x mx
    | false =>
      obtain ⟨g1, g2⟩ := compF_eq (show compF un c f ds = some ys from h)
      refine ⟨?_, fun x mx => ?_⟩
      · unfold comp at g1 ⊢
        rw [List.filter_cons, hc]
        exact g1
      · rcases List.mem_cons.mp mx with rfl | mx
        · exact ⟨t, h1, by rw [hc]; exact h2, fun z => by rw [hc] at z; cases z⟩
        · exact g2 x mx
end
def OTs (X : Cx) (e : En) (ρ : Rho) (ifs : List Expr) (m : Option Bool) : Prop := ∀ b, m = some b → DTs X e ρ ifs ρ b
theorem ots_nil : OTs X e ρ [] (some true) := fun b z => by cases z; exact dts_nil
theorem ots_one {ta : Option Bool} (h : OT X e ρ ec ta) : OTs X e ρ [ec] ta := fun b z => dts_one (h b z)
section
variable {τ : Type} {un : PyData → Option τ} {c : τ → Option Bool} {f : τ → OP}
theorem om_lc {elt iter : Expr} {ifs : List Expr} {scope : Scope} {own : List (Str × Nat)} {mi : Option (List PyData)} (am : Am X lv) (ρd : τ → Rho) (ts : List Nat) (hi : OI X e ρ tg iter mi) (ok : BlkOk X.N X.env.scope scope own)
    (hg : ∀ (s : Shared) (H : Hp) (C : Addr) (cl : List (Str × Addr)) (fp : List Addr), Am (X.blk s H scope (compEnvC scope cl C X.env) fp) lv → OG (X.blk s H scope (compEnvC scope cl C X.env) fp) e (wipeR ρ (own.map (·.2))) tg un ρd ts)
    (ht : ∀ (s : Shared) (H : Hp) (C : Addr) (cl : List (Str × Addr)) (fp : List Addr) (t : τ), Am (X.blk s H scope (compEnvC scope cl C X.env) fp) lv → OTs (X.blk s H scope (compEnvC scope cl C X.env) fp) e (ρd t) ifs (c t))
    (he : ∀ (s : Shared) (H : Hp) (C : Addr) (cl : List (Str × Addr)) (fp : List Addr) (t : τ), Am (X.blk s H scope (compEnvC scope cl C X.env) fp) lv → OX (X.blk s H scope (compEnvC scope cl C X.env) fp) e (ρd t) elt (f t))
    (hts : ∀ t ∈ ts, t ∈ own.map (·.2) := by decide) (hw : ∀ t, wipeR (ρd t) (own.map (·.2)) = wipeR ρ (own.map (·.2)) := by intro _; rfl) (hs : ∀ x, foldedSetIterable iter X.env x = pure x := by intro _; rfl) :
    OM X e ρ (.ListComp elt [⟨tg, iter, ifs, 0⟩] scope pos) (mi.bind (compF un c f)) := fun ys z => by
  obtain ⟨ds, h1, z⟩ := ob z
  obtain ⟨rfl, g⟩ := compF_eq z
  have am2 : ∀ (s : Shared) (H : Hp) (C : Addr) (cl : List (Str × Addr)) (fp : List Addr), Am (X.blk s H scope (compEnvC scope cl C X.env) fp) lv := fun _ _ _ _ _ => ⟨am.calm, am.nod, am.room, am.bl⟩
  refine dx_lc (l := ds) (enc := fun d => d) (fun d => ((un d).map ρd).getD []) ts am.calm am.nod (by rw [List.map_id']; exact hi ds h1) ok (fun s H C cl fp d md => ?_) (fun s H C cl fp d md => ?_) (fun s H C cl fp d md hc => ?_) hts (fun d md => ?_) hs
  · obtain ⟨t, h2, h3, h4⟩ := g d md
    rw [h2]
    exact hg s H C cl fp (am2 ..) d t h2
  · obtain ⟨t, h2, h3, h4⟩ := g d md
    rw [h2]
    exact ht s H C cl fp t (am2 ..) _ h3
  · obtain ⟨t, h2, h3, h4⟩ := g d md
    rw [h2]
    exact he s H C cl fp t (am2 ..) _ (h4 hc)
  · obtain ⟨t, h2, h3, h4⟩ := g d md
    rw [h2]
    exact hw t
end
end
end Ov
set_option Elab.async false
set_option linter.all false
set_option maxRecDepth 100000
set_option maxHeartbeats 1000000
namespace Ov
open PySem PySem.Spec PyProof.Rows L2
/-! ### lists that slots own, read as data for a while -/
mutual
theorem da_back {K : PySem.W.Frag} {S S' : Hp} (hS : ∀ b o xs, S b = some o → (o = .tup xs ∨ ∃ x, o = .frz x (.tup xs)) → S' b = some o) : ∀ (d : PyData) (v : V), hard d = true → Da K S d v → Da K S' d v
  | .none, _, _, h => by simp only [Da] at h ⊢; exact h
  | .bool _, _, _, h => by simp only [Da] at h ⊢; exact h
  | .int _, _, _, h => by simp only [Da] at h ⊢; exact h
  | .str _, _, _, h => by simp only [Da] at h ⊢; exact h
  | .list _, _, h, _ => by simp [hard] at h
  | .dict _, _, h, _ => by simp [hard] at h
  | .tuple ds, v, h, z => by
    simp only [Da] at z ⊢
    obtain ⟨a, xs, e1, e2, z⟩ := z
    refine ⟨a, xs, e1, ?_, da_backL hS ds xs (by simpa [hard] using h) z⟩
    rcases e2 with (e2 | ⟨o, e2⟩) | e2
    · exact .inl (.inl (hS a _ xs e2 (.inl rfl)))
    · exact .inl (.inr ⟨o, hS a _ xs e2 (.inr ⟨o, rfl⟩)⟩)
    · exact .inr e2
theorem da_backL {K : PySem.W.Frag} {S S' : Hp} (hS : ∀ b o xs, S b = some o → (o = .tup xs ∨ ∃ x, o = .frz x (.tup xs)) → S' b = some o) : ∀ (ds : List PyData) (xs : List V), hardL ds = true → DaL K S ds xs → DaL K S' ds xs
  | [], _, _, h => by simp only [DaL] at h ⊢; exact h
  | d :: ds, xs, h, z => by
    simp only [DaL] at z ⊢
    simp only [hardL, Bool.and_eq_true] at h
    obtain ⟨v, vs, e1, z1, z2⟩ := z
    exact ⟨v, vs, e1, da_back hS d v h.1 z1, da_backL hS ds vs h.2 z2⟩
end
def lend1 : Option Kd → Option Kd
  | some (.ml ds) => some (.dat (.list ds))
  | some (.dat d) => some (.dat d)
  | some (.scr ns) => some (.scr ns)
  | _ => none
abbrev lend (ρ : Rho) : Rho := ρ.map lend1
theorem lend_cov : ∀ {ρ : Rho} {σ : L2.St}, Cov ρ σ → Cov (lend ρ) σ
  | [], [], _ => trivial
  | none :: ρ, _ :: σ, h => by simp only [Cov, List.map_cons, lend1] at h ⊢; exact lend_cov h
  | some k :: ρ, some v :: σ, h => by
    simp only [Cov] at h
    have ih := lend_cov h
    cases k <;> simpa only [List.map_cons, lend1, Cov] using ih
  | [], _ :: _, h => by simp [Cov] at h
  | some _ :: _, none :: _, h => by simp [Cov] at h
  | some _ :: _, [], h => by simp [Cov] at h
  | none :: _, [], h => by simp [Cov] at h
section
variable {K : PySem.W.Frag} {e : En} {L : En2} {H H' S S' S1 : Hp} {σ : L2.St}
theorem lend_sl {f : List Addr} (e1 : Same S S1) (hf : ∀ b ∈ f, ∀ xs, H b = some (.lst xs) → S1 b = some (.lst xs)) : ∀ {ρ : Rho} {σ : L2.St} {g : List Addr}, (∀ b ∈ g, b ∈ f) → SL K H S (ents ρ σ) g → SL K H S1 (ents (lend ρ) σ) []
  | [], σ, g, _, _ => by cases σ <;> exact .nil
  | none :: ρ, [], g, _, _ => .nil
  | none :: ρ, x :: σ, g, hg, h => by
    simp only [ents, List.map_cons, lend1] at h ⊢
    exact lend_sl e1 hf hg h
  | some k :: ρ, [], g, _, _ => by
    cases k <;> exact .nil
  | some k :: ρ, none :: σ, g, hg, h => by
    simp only [ents] at h
    have ih := lend_sl (ρ := ρ) (σ := σ) e1 hf hg h
    cases k <;> simpa only [List.map_cons, lend1, ents] using ih
  | some k :: ρ, some v :: σ, g, hg, h => by
    simp only [ents] at h
    cases h with
    | cons h1 h2 =>
      have ih := lend_sl (ρ := ρ) (σ := σ) e1 hf (fun b hb => hg b (by simp [hb])) h2
      cases k with
      | dat d =>
        simp only [List.map_cons, lend1, ents]
        simp only [Ho] at h1
        exact .cons (f1 := []) (by simp only [Ho]; exact ⟨trivial, Da.mono e1 d v h1.2⟩) ih
      | ml ds =>
        simp only [List.map_cons, lend1, ents]
        simp only [Ho] at h1
        obtain ⟨p, xs, rfl, rfl, hp, hd⟩ := h1
        refine .cons (f1 := []) ?_ ih
        simp only [Ho, Da]
        exact ⟨trivial, p, xs, rfl, hf p (hg p (by simp)) xs hp, hd.mono e1⟩
      | scr ns =>
        simp only [List.map_cons, lend1, ents]
        simp only [Ho] at h1
        obtain ⟨a, ea, _, hs⟩ := h1
        refine .cons (f1 := []) ?_ ih
        simp only [Ho]
        exact ⟨a, ea, trivial, e1.seq hs⟩
      | dk _ => simpa only [List.map_cons, lend1, ents] using ih
      | dt _ => simpa only [List.map_cons, lend1, ents] using ih
      | ob _ _ _ => simpa only [List.map_cons, lend1, ents] using ih
      | pin _ _ => simpa only [List.map_cons, lend1, ents] using ih
      | any => simpa only [List.map_cons, lend1, ents] using ih
open Classical in
theorem Os.lend {ρ : Rho} (x : Os K e (L ++ ents ρ σ) H S) : ∃ S1, Os K ⟨H, S1⟩ (ents (lend ρ) σ) H S1 ∧
    ∀ (H' S' : Hp) (M : En2), Os K ⟨H, S1⟩ (M ++ ents (lend ρ) σ) H' S' → ∃ S2, Os K e (L ++ ents ρ σ) H' S2 ∧ ∀ d u, hard d = true → Da K S' d u → Da K S2 d u := by
  obtain ⟨f, h, nd, hf⟩ := x.own
  obtain ⟨f1, f2, rfl, h1, h2⟩ := h.split
  let S1 : Hp := fun b => if b ∈ f1 ++ f2 ∧ ∃ xs, H b = some (.lst xs) then H b else S b
  have out : ∀ b, b ∉ f1 ++ f2 → S1 b = S b := fun b hb => if_neg fun z => hb z.1
  have eS : Same S S1 := fun b o q => by
    rw [out b fun z => ?_]
    · exact q
    · rw [(hf b z).1] at q
      cases q
  have inn : ∀ b ∈ f1 ++ f2, ∀ xs, H b = some (.lst xs) → S1 b = some (.lst xs) := fun b hb xs q => (if_pos ⟨hb, xs, q⟩).trans q
  refine ⟨S1, ⟨fun b o q => ?_, fun b xs q => eS _ _ (x.tups b xs q), Same.refl _, Same.refl _, fun b q => .inl q, [], lend_sl eS inn (g := f2) (fun b hb => by simp [hb]) h2, List.nodup_nil, fun b hb => by cases hb⟩, fun H' S' M z => ?_⟩
  · by_cases hb : b ∈ f1 ++ f2 ∧ ∃ xs, H b = some (.lst xs)
    · rw [show S1 b = H b from if_pos hb] at q
      exact q
    · rw [show S1 b = S b from if_neg hb] at q
      exact x.same _ _ q
  · have eH : Same H H' := z.old
    have e1 : Same S1 S' := z.oldS
    have notT : ∀ b ∈ f1 ++ f2, ∀ xs, H' b ≠ some (.tup xs) := fun b hb xs q => by
      obtain ⟨g1, g2, _⟩ := hf b hb
      cases q2 : H b with
      | none => exact g2 q2
      | some o =>
        have q3 := eH b o q2
        rw [q] at q3
        cases q3
        have q4 := x.tups b xs q2
        rw [g1] at q4
        cases q4
    have notF : ∀ b ∈ f1 ++ f2, ∀ y xs, S' b ≠ some (.frz y (.tup xs)) := fun b hb y xs q => by
      obtain ⟨g1, g2, _⟩ := hf b hb
      have q2 := z.same _ _ q
      rcases z.grow b (by rw [q]; intro q; cases q) with w | w
      · have w : S1 b ≠ none := w
        by_cases hb2 : b ∈ f1 ++ f2 ∧ ∃ xs, H b = some (.lst xs)
        · obtain ⟨_, ys, hy⟩ := hb2
          rw [eH _ _ hy] at q2
          cases q2
        · rw [show S1 b = S b from if_neg hb2, g1] at w
          exact w rfl
      · exact g2 w
    let S2 : Hp := fun b => if b ∈ f1 ++ f2 then none else S' b
    have far : ∀ b ∈ f1 ++ f2, H' b = H b := fun b hb => by
      cases q : H b with
      | none => exact absurd q (hf b hb).2.1
      | some o => exact eH b o q
    have s2o : ∀ b, b ∉ f1 ++ f2 → S2 b = S' b := fun b hb => if_neg hb
    have eS2 : Same S S2 := fun b o q => by
      have nb : b ∉ f1 ++ f2 := fun w => by
        rw [(hf b w).1] at q
        cases q
      rw [s2o b nb]
      exact e1 _ _ (eS _ _ q)
    refine ⟨S2, ⟨fun b o q => ?_, fun b xs q => ?_, x.old.trans eH, x.oldS.trans eS2, fun b q => ?_, f1 ++ f2, h.mono eS2 far, nd, fun b hb => ⟨if_pos hb, ?_, (hf b hb).2.2⟩⟩, fun d u hd w => da_back (fun b o xs q hk => ?_) d u hd w⟩
    · by_cases hb : b ∈ f1 ++ f2
      · rw [show S2 b = none from if_pos hb] at q
        cases q
      · rw [s2o b hb] at q
        exact z.same _ _ q
    · rw [s2o b fun hb => notT b hb xs q]
      exact z.tups _ _ q
    · by_cases hb : b ∈ f1 ++ f2
      · exact absurd (show S2 b = none from if_pos hb) q
      · rw [s2o b hb] at q
        rcases z.grow b q with w | w
        · have w : S1 b ≠ none := w
          rw [out b hb] at w
          exact x.grow b w
        · exact .inr (x.fresh0 w)
    · rw [far b hb]
      exact (hf b hb).2.1
    · rw [s2o b fun hb => ?_]
      · exact q
      · rcases hk with rfl | ⟨y, rfl⟩
        · exact notT b hb xs (z.same _ _ q)
        · exact notF b hb y xs q
end
section
variable {X : Cx} {e : En} {ρ : Rho} {ex : Expr} {m : OP} {t : Option Bool}
def hardO (d : PyData) : OP := if hard d then some d else none
theorem ox_lend (h : ∀ e', OX X e' (lend ρ) ex m) : OX X e ρ ex (m.bind hardO) := fun d z => by
  obtain ⟨d', h1, z⟩ := ob z
  obtain ⟨hz, z⟩ := oi z
  cases z
  refine ⟨fun pins s σ H Q I ⟨S, stk, c, o, q⟩ => ?_⟩
  obtain ⟨S1, o1, back⟩ := o.lend
  refine (h ⟨H, S1⟩ d h1).run pins s σ H Q I ⟨S1, [], lend_cov c, o1, fun v H' S' c' o' => ?_⟩
  obtain ⟨S2, o2, hd⟩ := back H' S' [(.dat d, v)] o'
  exact q v H' S2 c (o2.push (hd d v hz o'.dat))
theorem ot_lend (h : ∀ e', OT X e' (lend ρ) ex t) : OT X e ρ ex t := fun b z => by
  refine ⟨fun pins s σ H Q I ⟨S, stk, c, o, q⟩ => ?_⟩
  obtain ⟨S1, o1, back⟩ := o.lend
  refine (h ⟨H, S1⟩ b z).run pins s σ H Q I ⟨S1, [], lend_cov c, o1, fun H' S' c' o' => ?_⟩
  obtain ⟨S2, o2, _⟩ := back H' S' [] o'
  exact q H' S2 c o2
end
end Ov
set_option Elab.async false
set_option linter.all false
set_option maxRecDepth 100000
set_option maxHeartbeats 1000000
namespace Ov
open PySem PySem.Spec PyProof.Rows L2
/-! ### statements, with what is computed -/
/-- how a list of statements ends: goes on, breaks, continues, returns -/
inductive Fl (σ β τ : Type) where
  | nx (s : σ)
  | bk (s : β)
  | ct (s : β)
  | rt (v : PyData) (t : τ)
section
variable {σ β τ : Type}
def post (eN : σ → Rho) (eB : β → Rho) (G : τ → Rho → Prop) : Fl σ β τ → Po
  | .nx s => { nx := (· = eN s) }
  | .bk s => { bk := (· = eB s) }
  | .ct s => { ct := (· = eB s) }
  | .rt v t => { rt := fun k ρ => k = .dat v ∧ G t ρ }
def OSs (X : Cx) (e : En) (pn : Pins) (W : L2.WX) (ρ : Rho) (st : List Stmt) (eN : σ → Rho) (eB : β → Rho) (G : τ → Rho → Prop) (m : Option (Fl σ β τ)) : Prop := ∀ r, m = some r → DSs X e pn W ρ st (post eN eB G r)
def forg (ρ : Rho) (is : List Nat) : Rho := is.foldl (fun r i => r.set i none) ρ
/-- a value of some kind -/
def OV {α : Type} (X : Cx) (e : En) (ρ : Rho) (ex : Expr) (kd : α → Kd) (m : Option α) : Prop := ∀ a, m = some a → DX X e ρ ex ρ (kd a)
section
variable {X : Cx} {e : En} {pn : Pins} {W : L2.WX} {ρ ρ1 : Rho} {ea eb ec ex tg : Expr} {es : List Expr} {pos p : Pos} {lv : Nat} {ma mb mc : OP} {ta : Option Bool} {eN : σ → Rho} {eB : β → Rho} {G : τ → Rho → Prop} {rest body els : List Stmt}
theorem OX.v (h : OX X e ρ ex ma) : OV X e ρ ex Kd.dat ma := h
theorem OM.v {m : Option (List PyData)} (h : OM X e ρ ex m) : OV X e ρ ex Kd.ml m := h
theorem dss_forg {P : Po} : ∀ {is : List Nat} {ρ : Rho}, DSs X e pn W (forg ρ is) body P → DSs X e pn W ρ body P
  | [], _, h => h
  | i :: is, ρ, h => dss_forget i (dss_forg (is := is) h)
theorem oss_forget (is : List Nat) {m : Option (Fl σ β τ)} (h : OSs X e pn W (forg ρ is) rest eN eB G m) : OSs X e pn W ρ rest eN eB G m := fun r z => dss_forg (h r z)
theorem oss_fz (i : Nat) {ds : List PyData} {m : Option (Fl σ β τ)} (h : OSs X e pn W (ρ.set i (some (.dat (.list ds)))) rest eN eB G m) (hρ : ρ[i]? = some (some (.ml ds)) := by rfl) : OSs X e pn W ρ rest eN eB G m := fun r z => dss_fz i (h r z) hρ
theorem oss_nil (is : List Nat) {s : σ} (h : forg ρ is = eN s := by rfl) : OSs X e pn W ρ [] eN eB G (some (.nx s)) := fun r z => by
  cases z
  exact dss_forg (is := is) (dss_nil h)
theorem oss_break (is : List Nat) {s : β} (h : forg ρ is = eB s := by rfl) : OSs X e pn W ρ (.Break pos :: rest) eN eB G (some (.bk s)) := fun r z => by
  cases z
  exact dss_forg (is := is) (dss_break h)
theorem oss_continue (is : List Nat) {s : β} (h : forg ρ is = eB s := by rfl) : OSs X e pn W ρ (.Continue pos :: rest) eN eB G (some (.ct s)) := fun r z => by
  cases z
  exact dss_forg (is := is) (dss_continue h)
theorem oss_pass {m : Option (Fl σ β τ)} (h : OSs X e pn W ρ rest eN eB G m) : OSs X e pn W ρ (.Pass pos :: rest) eN eB G m := fun r z => dss_pass (h r z)
theorem oss_ret {t : τ} (he : OX X e ρ ex ma) (hG : G t ρ) : OSs X e pn W ρ (.Return (some ex) pos :: rest) eN eB G (ma.map fun v => .rt v t) := fun r z => by
  obtain ⟨v, h1, e0⟩ := om z
  subst e0
  exact dss_ret (he v h1) ⟨rfl, hG⟩
theorem oss_retN {t : τ} (hG : G t ρ) : OSs X e pn W ρ (.Return none pos :: rest) eN eB G (some (.rt .none t)) := fun r z => by
  cases z
  exact dss_retN ⟨rfl, hG⟩
theorem oss_expr {m : Option (Fl σ β τ)} (he : OX X e ρ ex ma) (h : OSs X e pn W ρ rest eN eB G m) (hs : swapsWith ex none pos.line X.env = pure false := by rfl) : OSs X e pn W ρ (.Expr ex pos :: rest) eN eB G (ma.bind fun _ => m) := fun r z => by
  obtain ⟨v, h1, z⟩ := ob z
  exact dss_expr (he v h1) (h r z) hs
theorem oss_set {α : Type} {kd : α → Kd} {m : Option α} {mr : α → Option (Fl σ β τ)} (am : Am X lv) (i : Nat) {x : Str} {p' : Pos} (he : OV X e ρ ex kd m) (h2 : ∀ a, OSs X e pn W (ρ.set i (some (kd a))) rest eN eB G (mr a)) (hi : (ρ[i]?).isSome = true := by rfl) (hx : X.N[i]? = some x := by rfl) (hv : Loc X.env.scope x := by first | exact Or.inl rfl | exact Or.inr rfl) (hu : unp pn [i] = true := by rfl)
    (hs : swapsWith ex (some (.Name x p')) pos.line X.env = pure false := by rfl) (hf : X.fn x = true ∨ X.env.scope.names.lookup x = some .local := by first | exact .inl rfl | exact .inr rfl | assumption) : OSs X e pn W ρ (.Assign [.Name x p'] ex pos :: rest) eN eB G (m.bind mr) := fun r z => by
  obtain ⟨a, h1, z⟩ := ob z
  exact dss_set i (he a h1) (h2 a r z) am.nod (ixlt hi) hx hv hu hs hf
/-- x = e, data -/
theorem oss_let {mr : PyData → Option (Fl σ β τ)} (am : Am X lv) (i : Nat) {x : Str} {p' : Pos} (he : OX X e ρ ex ma) (h2 : ∀ a, OSs X e pn W (ρ.set i (some (.dat a))) rest eN eB G (mr a)) (hi : (ρ[i]?).isSome = true := by rfl) (hx : X.N[i]? = some x := by rfl) (hv : Loc X.env.scope x := by first | exact Or.inl rfl | exact Or.inr rfl) (hu : unp pn [i] = true := by rfl)
    (hs : swapsWith ex (some (.Name x p')) pos.line X.env = pure false := by rfl) (hf : X.fn x = true ∨ X.env.scope.names.lookup x = some .local := by first | exact .inl rfl | exact .inr rfl | assumption) : OSs X e pn W ρ (.Assign [.Name x p'] ex pos :: rest) eN eB G (ma.bind mr) := oss_set (kd := Kd.dat) am i he h2 hi hx hv hu hs hf
/-- x = e, a list that x owns -/
theorem oss_letM {m : Option (List PyData)} {mr : List PyData → Option (Fl σ β τ)} (am : Am X lv) (i : Nat) {x : Str} {p' : Pos} (he : OM X e ρ ex m) (h2 : ∀ a, OSs X e pn W (ρ.set i (some (.ml a))) rest eN eB G (mr a)) (hi : (ρ[i]?).isSome = true := by rfl) (hx : X.N[i]? = some x := by rfl) (hv : Loc X.env.scope x := by first | exact Or.inl rfl | exact Or.inr rfl) (hu : unp pn [i] = true := by rfl)
    (hs : swapsWith ex (some (.Name x p')) pos.line X.env = pure false := by rfl) (hf : X.fn x = true ∨ X.env.scope.names.lookup x = some .local := by first | exact .inl rfl | exact .inr rfl | assumption) : OSs X e pn W ρ (.Assign [.Name x p'] ex pos :: rest) eN eB G (m.bind mr) := oss_set (kd := Kd.ml) am i he h2 hi hx hv hu hs hf
/-- a, b = e, data taken apart -/
theorem oss_asg {υ : Type} {un : PyData → Option υ} {enc : υ → Rho} {ts : List Nat} {mr : υ → Option (Fl σ β τ)} (he : OX X e ρ ex ma) (hg : OG X e ρ tg un enc ts) (h2 : ∀ t, OSs X e pn W (enc t) rest eN eB G (mr t)) (hu : unp pn ts = true := by rfl) (hs : swapsWithSole [tg] ex pos.line X.env = pure false := by rfl) (hw : swappedStores [tg] ex X.env = pure none := by rfl)
    (h1 : (assignEach [tg] X.env).map (·.2) = [assign tg X.env] := by rfl) : OSs X e pn W ρ (.Assign [tg] ex pos :: rest) eN eB G ((ma.bind un).bind mr) := fun r z => by
  obtain ⟨t, h3, z⟩ := ob z
  obtain ⟨a, h4, h3⟩ := ob h3
  exact dss_asg (he a h4) (hg a t h3) (h2 t r z) hu hs hw h1
/-- a, b = e1, e2 -/
theorem oss_par {α1 α2 : Type} (k1 : α1 → Kd) (k2' : α2 → Kd) {m1 : Option α1} {m2 : Option α2} {mr : α1 → α2 → Option (Fl σ β τ)} (am : Am X lv) (i j : Nat) {x y : Str} {px py pt : Pos} {kt k2 pt2} (ha : OV X e ρ ea k1 m1) (hb : OV X e ρ eb k2' m2) (h2 : ∀ a b, OSs X e pn W ((ρ.set i (some (k1 a))).set j (some (k2' b))) rest eN eB G (mr a b))
    (he : starEach [ea, eb] X.env = (false, eval ea X.env) :: starEach [eb] X.env := by rfl) (he2 : starEach [eb] X.env = (false, eval eb X.env) :: starEach [] X.env := by rfl) (hi : X.N[i]? = some x := by rfl) (hj : X.N[j]? = some y := by rfl) (hij : i ≠ j := by decide)
    (hx : X.env.scope.names.lookup x = some .local := by rfl) (hy : X.env.scope.names.lookup y = some .local := by rfl) (hi2 : (ρ[i]?).isSome = true := by rfl) (hj2 : (ρ[j]?).isSome = true := by rfl) (hu : unp pn [i, j] = true := by rfl)
    (hw : swappedStores [.Tuple [.Name x px, .Name y py] kt pt] (.Tuple [ea, eb] k2 pt2) X.env = pure (some [x, y]) := by rfl)
    (hs : swapsWithSole [.Tuple [.Name x px, .Name y py] kt pt] (.Tuple [ea, eb] k2 pt2) pos.line X.env = pure false := by rfl) :
    OSs X e pn W ρ (.Assign [.Tuple [.Name x px, .Name y py] kt pt] (.Tuple [ea, eb] k2 pt2) pos :: rest) eN eB G (m1.bind fun a => m2.bind fun b => mr a b) := fun r z => by
  obtain ⟨a, h3, z⟩ := ob z
  obtain ⟨b, h4, z⟩ := ob z
  exact dss_par i j (da_cons (ha a h3) (da_cons (hb b h4) da_nil he2) he) (h2 a b r z) am.nod am.calm hi hj hij hx hy (ixlt hi2) (ixlt hj2) hu hw hs
/-- x op= e -/
theorem oss_aug {op : Operator} {f : Int → Int → Int} {a : Int} {mr : Int → Option (Fl σ β τ)} (am : Am X lv) (i : Nat) {x : Str} {p' : Pos} (he : OX X e ρ ex ma) (ho : PIp X op (ipI f)) (h2 : ∀ b, OSs X e pn W (ρ.set i (some (.dat (.int (f a b))))) rest eN eB G (mr b)) (hρ : ρ[i]? = some (some (.dat (.int a))) := by rfl) (hx : X.N[i]? = some x := by rfl) (hv : Loc X.env.scope x := by first | exact Or.inl rfl | exact Or.inr rfl) (hi : (ρ[i]?).isSome = true := by rfl) (hu : unp pn [i] = true := by rfl)
    (hf : X.fn x = true ∨ X.env.scope.names.lookup x = some .local := by first | exact .inl rfl | exact .inr rfl | assumption) : OSs X e pn W ρ (.AugAssign (.Name x p') op ex pos :: rest) eN eB G ((ma.bind pInt).bind mr) := fun r z => by
  obtain ⟨b, h3, z⟩ := ob z
  exact dss_aug i (he _ (pInt_some h3)) ho (h2 b r z) am.nod hρ hx hv (ixlt hi) hu hf
/-! ### branches -/
/-- what comes behind a branch or a loop -/
def seqF {σ1 : Type} (m : Option (Fl σ1 β τ)) (mr : σ1 → Option (Fl σ β τ)) : Option (Fl σ β τ) := m.bind fun r => match r with
  | .nx s => mr s
  | .bk s => some (.bk s)
  | .ct s => some (.ct s)
  | .rt v t => some (.rt v t)
theorem oss_if {σ1 : Type} {eM : σ1 → Rho} {m1 m2 : Option (Fl σ1 β τ)} {mr : σ1 → Option (Fl σ β τ)} (hc : OT X e ρ ec ta) (h1 : OSs X e pn W ρ body eM eB G m1) (h2 : OSs X e pn W ρ els eM eB G m2) (h3 : ∀ s, OSs X e pn W (eM s) rest eN eB G (mr s)) : OSs X e pn W ρ (.If ec body els pos :: rest) eN eB G (seqF (ta.bind fun b => bif b then m1 else m2) mr) := fun r z => by
  obtain ⟨q, h4, z⟩ := ob z
  obtain ⟨b, h5, h4⟩ := ob h4
  have arm : ∀ {st : List Stmt} {m : Option (Fl σ1 β τ)}, OSs X e pn W ρ st eM eB G m → m = some q → DSs X e pn W ρ st { post eN eB G r with nx := fun ρ' => ∃ s, q = .nx s ∧ ρ' = eM s } := fun {st m} h hm => by
    refine dss_weak (h q hm) (fun ρ' w => ?_) (fun k ρ' w => ?_) (fun ρ' w => ?_) (fun ρ' w => ?_) fun A fs ρ' w => ?_
    · cases q with
      | nx s => exact ⟨s, rfl, w⟩
      | _ => exact w.elim
    · cases q with
      | rt v t => cases z; exact w
      | _ => exact w.elim
    · cases q with
      | bk s => cases z; exact w
      | _ => exact w.elim
    · cases q with
      | ct s => cases z; exact w
      | _ => exact w.elim
    · cases q <;> exact w.elim
  refine dss_if (fun ρ' => ∃ s, q = .nx s ∧ ρ' = eM s) (hc b h5) (fun e0 => ?_) (fun e0 => ?_) fun ρ' ⟨s, e1, e2⟩ => ?_
  · subst e0
    exact arm h1 h4
  · subst e0
    exact arm h2 h4
  · subst e1 e2
    exact h3 s r z
/-- an if whose body does not come back -/
theorem oss_ifR {m1 : Option (Fl Empty β τ)} {mr : Option (Fl σ β τ)} (hc : OT X e ρ ec ta) (h1 : OSs X e pn W ρ body (fun s : Empty => s.elim) eB G m1) (h3 : OSs X e pn W ρ rest eN eB G mr) : OSs X e pn W ρ (.If ec body [] pos :: rest) eN eB G (ta.bind fun b => bif b then seqF m1 (fun s => s.elim) else mr) := fun r z => by
  obtain ⟨b, h5, z⟩ := ob z
  refine dss_ifR (hc b h5) (fun e0 => ?_) fun e0 => ?_
  · subst e0
    obtain ⟨q, h4, z⟩ := ob (show seqF m1 (fun s => s.elim) = some r from z)
    refine dss_weak (h1 q h4) (fun ρ' w => ?_) (fun k ρ' w => ?_) (fun ρ' w => ?_) (fun ρ' w => ?_) fun A fs ρ' w => ?_
    · cases q with
      | nx s => exact s.elim
      | _ => exact w.elim
    · cases q with
      | rt v t => cases z; exact w
      | _ => exact w.elim
    · cases q with
      | bk s => cases z; exact w
      | _ => exact w.elim
    · cases q with
      | ct s => cases z; exact w
      | _ => exact w.elim
    · cases q <;> exact w.elim
  · subst e0
    exact h3 r z
/-- an if whose body never runs here -/
theorem oss_ifN {mr : Option (Fl σ β τ)} (hc : OT X e ρ ec ta) (h3 : OSs X e pn W ρ rest eN eB G mr) : OSs X e pn W ρ (.If ec body [] pos :: rest) eN eB G (ta.bind fun b => bif b then none else mr) := fun r z => by
  obtain ⟨b, h5, z⟩ := ob z
  cases b with
  | true => cases z
  | false => exact dss_ifR (hc false h5) (fun e0 => by cases e0) fun _ => h3 r z
/-! ### loops -/
def stepF (k : σ → Option (Fl σ Empty τ)) : Fl σ σ τ → Option (Fl σ Empty τ)
  | .nx s => k s
  | .ct s => k s
  | .bk s => some (.nx s)
  | .rt v t => some (.rt v t)
/-- a loop over data: goes on with a state, or returns -/
def loopF {υ : Type} (un : PyData → Option υ) (mb : σ → υ → Option (Fl σ σ τ)) : List PyData → σ → Option (Fl σ Empty τ)
  | [], s => some (.nx s)
  | d :: ds, s => (un d).bind fun t => (mb s t).bind (stepF (loopF un mb ds))
def seqL {σ1 : Type} (m : Option (Fl σ1 Empty τ)) (mr : σ1 → Option (Fl σ β τ)) : Option (Fl σ β τ) := m.bind fun r => match r with
  | .nx s => mr s
  | .bk s => s.elim
  | .ct s => s.elim
  | .rt v t => some (.rt v t)
def nextS (s : σ) : Option (Fl σ σ τ) → σ
  | some (.nx s') => s'
  | some (.ct s') => s'
  | _ => s
def trajF {υ : Type} (un : PyData → Option υ) (mb : σ → υ → Option (Fl σ σ τ)) (ds : List PyData) (s0 : σ) : Nat → σ
  | 0 => s0
  | i + 1 => nextS (trajF un mb ds s0 i) ((ds[i]?.bind un).bind (mb (trajF un mb ds s0 i)))
theorem body_weak {σ1 : Type} {eL : σ1 → Rho} {q : Fl σ1 Empty τ} {r : Fl σ β τ} {N R : Rho → Prop} {w : Fl σ1 σ1 τ} (h : DSs X e pn W ρ body (post eL eL G w)) (h1 : ∀ s, w = .nx s → N (eL s)) (h2 : ∀ s, w = .ct s → N (eL s)) (h3 : ∀ s, w = .bk s → R (eL s)) (h4 : ∀ v t, w = .rt v t → r = .rt v t) : DSs X e pn W ρ body { post eN eB G r with nx := N, ct := N, bk := R } := by
  refine dss_weak h (fun ρ' z => ?_) (fun k ρ' z => ?_) (fun ρ' z => ?_) (fun ρ' z => ?_) fun A fs ρ' z => ?_
  · cases w with
    | nx s =>
      have z : ρ' = eL s := z
      subst z
      exact h1 s rfl
    | _ => exact z.elim
  · cases w with
    | rt v t => rw [h4 v t rfl]; exact z
    | _ => exact z.elim
  · cases w with
    | bk s =>
      have z : ρ' = eL s := z
      subst z
      exact h3 s rfl
    | _ => exact z.elim
  · cases w with
    | ct s =>
      have z : ρ' = eL s := z
      subst z
      exact h2 s rfl
    | _ => exact z.elim
  · cases w <;> exact z.elim
theorem oss_for {σ1 υ : Type} {iter : Expr} {mi : Option (List PyData)} {un : PyData → Option υ} {eL : σ1 → Rho} {eT : σ1 → υ → Rho} {mb : σ1 → υ → Option (Fl σ1 σ1 τ)} {mr : σ1 → Option (Fl σ β τ)} (am : Am X lv) (s0 : σ1) (ts : List Nat) (hp : PassesOwn (model X.prog X.w) X.A X.env X.xe) (hi : OI X e ρ tg iter mi)
    (hg : ∀ s, OG X e (eL s) tg un (eT s) ts) (hb : ∀ s t, OSs X e pn W (eT s t) body eL eL G (mb s t)) (h2 : ∀ s, OSs X e pn W (eL s) rest eN eB G (mr s)) (h0 : ρ = eL s0 := by rfl) (hu : unp pn ts = true := by rfl)
    (hs : ∀ x, foldedSetIterable iter X.env x = pure x := by intro _; rfl) : OSs X e pn W ρ (.For tg iter body [] pos :: rest) eN eB G (seqL (mi.bind fun ds => loopF un mb ds s0) mr) := fun r z => by
  obtain ⟨q, h3, z⟩ := ob z
  obtain ⟨ds, h4, h3⟩ := ob h3
  have key : ∀ i d, ds[i]? = some d → loopF un mb (ds.drop i) (trajF un mb ds s0 i) = some q → ∃ t w, un d = some t ∧ mb (trajF un mb ds s0 i) t = some w ∧ trajF un mb ds s0 (i + 1) = nextS (trajF un mb ds s0 i) (some w) ∧ stepF (loopF un mb (ds.drop (i + 1))) w = some q := fun i d hd hl => by
    obtain ⟨hi, e1⟩ := List.getElem?_eq_some_iff.mp hd
    rw [List.drop_eq_getElem_cons hi, e1] at hl
    simp only [loopF] at hl
    obtain ⟨t, h5, hl⟩ := ob hl
    obtain ⟨w, h6, hl⟩ := ob hl
    refine ⟨t, w, h5, h6, ?_, hl⟩
    show nextS _ ((ds[i]?.bind un).bind _) = _
    rw [hd, Option.bind_some, h5, Option.bind_some, h6]
  refine dss_for (ds := ds) (fun i ρ' => ρ' = eL (trajF un mb ds s0 i) ∧ loopF un mb (ds.drop i) (trajF un mb ds s0 i) = some q) (fun i ρ' d => ((un d).map (eT (trajF un mb ds s0 i))).getD []) ts (fun ρ' => ∃ s, q = .nx s ∧ ρ' = eL s) hp am.calm (hi ds h4) ⟨h0, h3⟩ (fun i d ρ' hd ⟨e1, hl⟩ => ?_) (fun i d ρ' hd ⟨e1, hl⟩ => ?_) (fun ρ' ⟨e1, hl⟩ => ?_) (fun ρ' ⟨s, e1, e2⟩ => ?_) hu hs
  · obtain ⟨t, w, h5, h6, h7, h8⟩ := key i d hd hl
    subst e1
    rw [h5]
    exact hg _ d t h5
  · obtain ⟨t, w, h5, h6, h7, h8⟩ := key i d hd hl
    rw [h5]
    refine body_weak (q := q) (hb _ t w h6) (fun s ew => ?_) (fun s ew => ?_) (fun s ew => ?_) fun v t' ew => ?_
    · subst ew
      rw [h7]
      exact ⟨rfl, h8⟩
    · subst ew
      rw [h7]
      exact ⟨rfl, h8⟩
    · subst ew
      cases h8
      exact ⟨s, rfl, rfl⟩
    · subst ew
      cases h8
      cases z
      rfl
  · rw [List.drop_length] at hl
    simp only [loopF] at hl
    cases hl
    exact ⟨_, rfl, e1⟩
  · subst e1 e2
    exact h2 s r z
/-- a while, with fuel -/
def whileF (mc : σ → Option Bool) (mb : σ → Option (Fl σ σ τ)) : Nat → σ → Option (Fl σ Empty τ)
  | 0, _ => none
  | n + 1, s => (mc s).bind fun b => bif b then (mb s).bind (stepF (whileF mc mb n)) else some (.nx s)
def trajW (mb : σ → Option (Fl σ σ τ)) (s0 : σ) : Nat → σ
  | 0 => s0
  | i + 1 => nextS (trajW mb s0 i) (mb (trajW mb s0 i))
theorem oss_while {σ1 : Type} {eL : σ1 → Rho} {mc : σ1 → Option Bool} {mb : σ1 → Option (Fl σ1 σ1 τ)} {mr : σ1 → Option (Fl σ β τ)} (n : Nat) (s0 : σ1) (hp : PassesOwn (model X.prog X.w) X.A X.env X.xe) (hc : ∀ s, OT X e (eL s) ec (mc s)) (hb : ∀ s, OSs X e pn W (eL s) body eL eL G (mb s)) (h2 : ∀ s, OSs X e pn W (eL s) rest eN eB G (mr s)) (h0 : ρ = eL s0 := by rfl) :
    OSs X e pn W ρ (.While ec body [] pos :: rest) eN eB G (seqL (whileF mc mb n s0) mr) := fun r z => by
  obtain ⟨q, h3, z⟩ := ob z
  have key : ∀ m s, whileF mc mb m s = some q → ∃ m' b, m = m' + 1 ∧ mc s = some b ∧ (b = true → ∃ w, mb s = some w ∧ stepF (whileF mc mb m') w = some q) ∧ (b = false → q = .nx s) := fun m s h => by
    cases m with
    | zero => cases h
    | succ m' =>
      simp only [whileF] at h
      obtain ⟨b, h5, h⟩ := ob h
      refine ⟨m', b, rfl, h5, fun e0 => ?_, fun e0 => ?_⟩
      · subst e0
        exact ob h
      · subst e0
        exact (Option.some.inj h).symm
  have st : ∀ m, m ≤ n → 0 < m → trajW mb s0 (n - (m - 1)) = nextS (trajW mb s0 (n - m)) (mb (trajW mb s0 (n - m))) := fun m hm h0 => by
    have : n - (m - 1) = (n - m) + 1 := by omega
    rw [this]
    rfl
  refine dss_while (fun m ρ' => m ≤ n ∧ ρ' = eL (trajW mb s0 (n - m)) ∧ whileF mc mb m (trajW mb s0 (n - m)) = some q) (fun m ρ' => (mc (trajW mb s0 (n - m))).getD false) (fun ρ' => ∃ s, q = .nx s ∧ ρ' = eL s) hp ⟨n, Nat.le_refl _, by rw [Nat.sub_self]; exact h0, by rw [Nat.sub_self]; exact h3⟩ (fun m ρ' ⟨hm, e1, hl⟩ => ?_) (fun m ρ' ⟨hm, e1, hl⟩ hbt => ?_) (fun m ρ' ⟨hm, e1, hl⟩ hbf => ?_) fun ρ' ⟨s, e1, e2⟩ => ?_
  · obtain ⟨m', b, em, h5, h6, h7⟩ := key _ _ hl
    subst e1
    rw [h5]
    exact hc _ b h5
  · obtain ⟨m', b, em, h5, h6, h7⟩ := key _ _ hl
    rw [h5] at hbt
    obtain ⟨w, h8, h9⟩ := h6 hbt
    subst e1
    have h10 := st m hm (by omega)
    rw [h8, em, Nat.add_sub_cancel] at h10
    refine body_weak (q := q) (hb _ w h8) (fun s ew => ?_) (fun s ew => ?_) (fun s ew => ?_) fun v t' ew => ?_
    · subst ew
      refine ⟨m', by omega, by omega, ?_, ?_⟩
      · rw [h10]; rfl
      · rw [h10]; exact h9
    · subst ew
      refine ⟨m', by omega, by omega, ?_, ?_⟩
      · rw [h10]; rfl
      · rw [h10]; exact h9
    · subst ew
      cases h9
      exact ⟨s, rfl, rfl⟩
    · subst ew
      cases h9
      cases z
      rfl
  · obtain ⟨m', b, em, h5, h6, h7⟩ := key _ _ hl
    rw [h5] at hbf
    exact ⟨_, h7 hbf, e1⟩
  · subst e1 e2
    exact h2 s r z
/-! ### methods of lists that slots own -/
theorem oss_append (i : Nat) {ds : List PyData} {x : Str} {xp apos spos : Pos} {mr : PyData → Option (Fl σ β τ)} (ha : OX X e ρ ea ma) (h2 : ∀ d, OSs X e pn W (ρ.set i (some (.ml (ds ++ [d])))) rest eN eB G (mr d)) (hρ : ρ[i]? = some (some (.ml ds)) := by rfl) (hN : X.N[i]? = some x := by rfl) (hv : Vis X.env.scope x := by first | exact Or.inl rfl | exact Or.inr (Or.inl rfl) | exact Or.inr (Or.inr rfl))
    (hd : (x == ("__debug__" : Str)) = false := by decide) (hcd : (x == ("__classdict__" : Str)) = false := by decide) (hbase : attributeBase (.Name x xp) "append" X.env (eval (.Name x xp) X.env) = eval (.Name x xp) X.env := by rfl)
    (hfew : ((backTo pos (starEach [ea] X.env)).all (fun x => !x.1) && (backToKw pos (keywordEach [] X.env)).all (fun x => x.1.isSome) && decide ([ea].length + ([] : List Keyword).length + (if ([] : List Keyword).isEmpty then 0 else 1) < 30)) = true := by rfl)
    (hline : (apos.endLine == pos.line) = true := by rfl) (hs : starEach [ea] X.env = (false, eval ea X.env) :: starEach [] X.env := by rfl) (hsw : swapsWith (.Call (.Attribute (.Name x xp) "append" apos) [ea] [] pos) none spos.line X.env = pure false := by rfl) :
    OSs X e pn W ρ (.Expr (.Call (.Attribute (.Name x xp) "append" apos) [ea] [] pos) spos :: rest) eN eB G (ma.bind fun d => if ds.length < 16777216 then mr d else none) := fun r z => by
  obtain ⟨d, h1, z⟩ := ob z
  obtain ⟨hz, z⟩ : ds.length < 16777216 ∧ mr d = some r := by
    split at z
    · rename_i h; exact ⟨h, z⟩
    · cases z
  exact dss_expr (dx_mml i PySem.F.plainAttrs_list PySem.F.slot_list_append PySem.F.type_list_append mt_append (da_cons (ha d h1) da_nil hs) (rml_append (by rw [sizeLine_eq]; exact hz)) hρ hρ hN hv hd hcd hbase hfew hline hs (by rfl)) (h2 d r z) hsw
theorem oss_extend (i : Nat) {ds : List PyData} {x : Str} {xp apos spos : Pos} {m : Option (List PyData)} {mr : List PyData → Option (Fl σ β τ)} (ha : OM X e ρ ea m) (h2 : ∀ es, OSs X e pn W (ρ.set i (some (.ml (ds ++ es)))) rest eN eB G (mr es)) (hρ : ρ[i]? = some (some (.ml ds)) := by rfl) (hN : X.N[i]? = some x := by rfl) (hv : Vis X.env.scope x := by first | exact Or.inl rfl | exact Or.inr (Or.inl rfl) | exact Or.inr (Or.inr rfl))
    (hd : (x == ("__debug__" : Str)) = false := by decide) (hcd : (x == ("__classdict__" : Str)) = false := by decide) (hbase : attributeBase (.Name x xp) "extend" X.env (eval (.Name x xp) X.env) = eval (.Name x xp) X.env := by rfl)
    (hfew : ((backTo pos (starEach [ea] X.env)).all (fun x => !x.1) && (backToKw pos (keywordEach [] X.env)).all (fun x => x.1.isSome) && decide ([ea].length + ([] : List Keyword).length + (if ([] : List Keyword).isEmpty then 0 else 1) < 30)) = true := by rfl)
    (hline : (apos.endLine == pos.line) = true := by rfl) (hs : starEach [ea] X.env = (false, eval ea X.env) :: starEach [] X.env := by rfl) (hsw : swapsWith (.Call (.Attribute (.Name x xp) "extend" apos) [ea] [] pos) none spos.line X.env = pure false := by rfl) :
    OSs X e pn W ρ (.Expr (.Call (.Attribute (.Name x xp) "extend" apos) [ea] [] pos) spos :: rest) eN eB G (m.bind fun es => if ds.length + es.length ≤ 16777216 then mr es else none) := fun r z => by
  obtain ⟨es, h1, z⟩ := ob z
  obtain ⟨hz, z⟩ : ds.length + es.length ≤ 16777216 ∧ mr es = some r := by
    split at z
    · rename_i h; exact ⟨h, z⟩
    · cases z
  exact dss_expr (dx_mml i PySem.F.plainAttrs_list PySem.F.slot_list_extend PySem.F.type_list_extend mt_extend (da_cons (dx_fz (ha es h1)) da_nil hs) (rml_extend (by rw [sizeLine_eq]; exact hz)) hρ hρ hN hv hd hcd hbase hfew hline hs (by rfl)) (h2 es r z) hsw
theorem oss_insert (i : Nat) {ds : List PyData} {x : Str} {xp apos spos : Pos} {mr : Int → PyData → Option (Fl σ β τ)} (ha : OX X e ρ ea ma) (hb : OX X e ρ eb mb) (h2 : ∀ (c : Int) d, OSs X e pn W (ρ.set i (some (.ml (ds.take c.toNat ++ [d] ++ ds.drop c.toNat)))) rest eN eB G (mr c d)) (hρ : ρ[i]? = some (some (.ml ds)) := by rfl) (hN : X.N[i]? = some x := by rfl) (hv : Vis X.env.scope x := by first | exact Or.inl rfl | exact Or.inr (Or.inl rfl) | exact Or.inr (Or.inr rfl))
    (hd : (x == ("__debug__" : Str)) = false := by decide) (hcd : (x == ("__classdict__" : Str)) = false := by decide) (hbase : attributeBase (.Name x xp) "insert" X.env (eval (.Name x xp) X.env) = eval (.Name x xp) X.env := by rfl)
    (hfew : ((backTo pos (starEach [ea, eb] X.env)).all (fun x => !x.1) && (backToKw pos (keywordEach [] X.env)).all (fun x => x.1.isSome) && decide ([ea, eb].length + ([] : List Keyword).length + (if ([] : List Keyword).isEmpty then 0 else 1) < 30)) = true := by rfl)
    (hline : (apos.endLine == pos.line) = true := by rfl) (hs : starEach [ea, eb] X.env = (false, eval ea X.env) :: starEach [eb] X.env := by rfl) (hs2 : starEach [eb] X.env = (false, eval eb X.env) :: starEach [] X.env := by rfl) (hpl : (backTo pos (starEach [eb] X.env)).any (·.1) = false := by rfl) (hsw : swapsWith (.Call (.Attribute (.Name x xp) "insert" apos) [ea, eb] [] pos) none spos.line X.env = pure false := by rfl) :
    OSs X e pn W ρ (.Expr (.Call (.Attribute (.Name x xp) "insert" apos) [ea, eb] [] pos) spos :: rest) eN eB G ((ma.bind pInt).bind fun c => mb.bind fun d => if (0 ≤ c ∧ c < 16777216) ∧ ds.length < 16777216 then mr c d else none) := fun r z => by
  obtain ⟨c, h1, z⟩ := ob z
  obtain ⟨d, h3, z⟩ := ob z
  obtain ⟨hz, z⟩ : ((0 ≤ c ∧ c < 16777216) ∧ ds.length < 16777216) ∧ mr c d = some r := by
    split at z
    · rename_i h; exact ⟨h, z⟩
    · cases z
  exact dss_expr (dx_mml i PySem.F.plainAttrs_list PySem.F.slot_list_insert PySem.F.type_list_insert mt_insert (da_cons (ha _ (pInt_some h1)) (da_cons (hb d h3) da_nil hs2) hs) (rml_insert hz.1.1 (by omega) (by rw [sizeLine_eq]; exact hz.2)) hρ hρ hN hv hd hcd hbase hfew hline hs hpl) (h2 c d r z) hsw
end
end
end Ov
set_option Elab.async false
set_option linter.all false
set_option maxRecDepth 100000
set_option maxHeartbeats 1000000
namespace Ov
open PySem PySem.Spec PyProof.Rows L2
/-! ### defs -/
/-- what a def returns -/
def finF : Option (Fl Unit Unit Unit) → OP
  | some (.nx _) => some .none
  | some (.rt v _) => some v
  | _ => none
abbrev e0 : Unit → Rho := fun _ => []
theorem goal_post {ks ks' : List Kd} {r : Fl Unit Unit Unit} {v : PyData} {X : Cx} {e : En} {pn : Pins} {W : L2.WX} {ρ : Rho} {body : List Stmt} {eN : Unit → Rho} {G : Unit → Rho → Prop} (hp : ∀ ρ, G () ρ → fin (pinOf 0 ks) ks' ρ) (hn : fin (pinOf 0 ks) ks' (eN ())) (hr : finF (some r) = some v) (h : DSs X e pn W ρ body (post eN e0 G r)) : DSs X e pn W ρ body (goal (pinOf 0 ks) ks' (.ret (.dat v))) := by
  refine dss_weak h (fun ρ' z => ?_) (fun k ρ' z => ?_) (fun ρ' z => ?_) (fun ρ' z => ?_) fun A fs ρ' z => ?_
  · cases r with
    | nx s =>
      cases hr
      have z : ρ' = eN s := z
      subst z
      exact ⟨rfl, hn⟩
    | _ => exact z.elim
  · cases r with
    | rt w t =>
      cases hr
      obtain ⟨z1, z2⟩ := z
      exact ⟨z1, hp _ z2⟩
    | _ => exact z.elim
  · cases r with
    | bk s => cases hr
    | _ => exact z.elim
  · cases r with
    | ct s => cases hr
    | _ => exact z.elim
  · cases r <;> exact z.elim
section
variable {P : Program} {w : World} {K : PySem.W.Frag} {mg : Str → Option Value} {base : Heap} {x x' qual : Str} {st : Stmt} {f : Addr} {fd : FuncData} {N ps : List Str} {k : Nat}
abbrev cxF (P : Program) (w : World) (K : PySem.W.Frag) (mg : Str → Option Value) (base : Heap) (N : List Str) (qual : Str) (st : Stmt) (f : Addr) (cdv : Value) (A : Around) (outer : List Env) (s : Shared) (H : Hp) (E : XK) : Cx := cxOf (L2.CX P w) P w K mg base N qual (defScope st) f cdv A outer s H E
theorem am_of {cdv : Value} {A : Around} {outer : List Env} {s : Shared} {H : Hp} {E : XK} (hN : N.Nodup) (hbl : ∀ x ∈ blts, mg x = none) (hr : Room (k + 1) (A.deeper (envOfC qual (defScope st) s.heap.objs.size f cdv))) : Am (cxF P w K mg base N qual st f cdv A outer s H E) k := ⟨rfl, hN, hr, hbl⟩
theorem Fn.of1 {m : PyData → OP} {mB : PyData → Option (Fl Unit Unit Unit)} {eN : Unit → Rho} (F : Fun K x qual st f fd) (Sc : FnScope N ps (defScope st)) (hm : mg x' = some (.ref f)) (hb : Binds K fd ps []) (hbl : ∀ x ∈ blts, mg x = none) (hN : N.Nodup) (hps : ps.length = 1) (hmB : ∀ a, m a = finF (mB a))
    (body : ∀ (cdv : Value) (A : Around) (outer : List Env) (s : Shared) (H : Hp) (E : XK), Am (cxF P w K mg base N qual st f cdv A outer s H E) k → ∀ (e : En) (vs : List V) (a : PyData), OSs (cxF P w K mg base N qual st f cdv A outer s H E) e ([], vs) (fun cls d _ H => E cls d H) (rho0 N [.dat a]) (defBody st) eN e0 (fun _ _ => True) (mB a)) :
    Fn P w K mg base x' ps (k + 2) (rel1 m) := by
  refine Fn.of F Sc hm hb ?_ ?_
  · rintro ks ks' r ⟨a, v, _, rfl, rfl, rfl⟩
    exact ⟨hps.symm, by simp [keepD]⟩
  · rintro cdv A outer s H E hr e vs ks ks' r ⟨a, v, hv, rfl, rfl, rfl⟩
    rw [hmB] at hv
    cases h : mB a with
    | none => rw [h] at hv; cases hv
    | some q =>
      rw [h] at hv
      exact goal_post (fun _ _ => fin_nil) fin_nil hv (body cdv A outer s H E (am_of hN hbl hr) e vs a q h)
theorem Fn.of2 {m : PyData → PyData → OP} {mB : PyData → PyData → Option (Fl Unit Unit Unit)} {eN : Unit → Rho} (F : Fun K x qual st f fd) (Sc : FnScope N ps (defScope st)) (hm : mg x' = some (.ref f)) (hb : Binds K fd ps []) (hbl : ∀ x ∈ blts, mg x = none) (hN : N.Nodup) (hps : ps.length = 2) (hmB : ∀ a b, m a b = finF (mB a b))
    (body : ∀ (cdv : Value) (A : Around) (outer : List Env) (s : Shared) (H : Hp) (E : XK), Am (cxF P w K mg base N qual st f cdv A outer s H E) k → ∀ (e : En) (vs : List V) (a b : PyData), OSs (cxF P w K mg base N qual st f cdv A outer s H E) e ([], vs) (fun cls d _ H => E cls d H) (rho0 N [.dat a, .dat b]) (defBody st) eN e0 (fun _ _ => True) (mB a b)) :
    Fn P w K mg base x' ps (k + 2) (rel2 m) := by
  refine Fn.of F Sc hm hb ?_ ?_
  · rintro ks ks' r ⟨a, b, v, _, rfl, rfl, rfl⟩
    exact ⟨hps.symm, by simp [keepD]⟩
  · rintro cdv A outer s H E hr e vs ks ks' r ⟨a, b, v, hv, rfl, rfl, rfl⟩
    rw [hmB] at hv
    cases h : mB a b with
    | none => rw [h] at hv; cases hv
    | some q =>
      rw [h] at hv
      exact goal_post (fun _ _ => fin_nil) fin_nil hv (body cdv A outer s H E (am_of hN hbl hr) e vs a b q h)
theorem Fn.of3 {m : PyData → PyData → PyData → OP} {mB : PyData → PyData → PyData → Option (Fl Unit Unit Unit)} {eN : Unit → Rho} (F : Fun K x qual st f fd) (Sc : FnScope N ps (defScope st)) (hm : mg x' = some (.ref f)) (hb : Binds K fd ps []) (hbl : ∀ x ∈ blts, mg x = none) (hN : N.Nodup) (hps : ps.length = 3) (hmB : ∀ a b c, m a b c = finF (mB a b c))
    (body : ∀ (cdv : Value) (A : Around) (outer : List Env) (s : Shared) (H : Hp) (E : XK), Am (cxF P w K mg base N qual st f cdv A outer s H E) k → ∀ (e : En) (vs : List V) (a b c : PyData), OSs (cxF P w K mg base N qual st f cdv A outer s H E) e ([], vs) (fun cls d _ H => E cls d H) (rho0 N [.dat a, .dat b, .dat c]) (defBody st) eN e0 (fun _ _ => True) (mB a b c)) :
    Fn P w K mg base x' ps (k + 2) (rel3 m) := by
  refine Fn.of F Sc hm hb ?_ ?_
  · rintro ks ks' r ⟨a, b, c, v, _, rfl, rfl, rfl⟩
    exact ⟨hps.symm, by simp [keepD]⟩
  · rintro cdv A outer s H E hr e vs ks ks' r ⟨a, b, c, v, hv, rfl, rfl, rfl⟩
    rw [hmB] at hv
    cases h : mB a b c with
    | none => rw [h] at hv; cases hv
    | some q =>
      rw [h] at hv
      exact goal_post (fun _ _ => fin_nil) fin_nil hv (body cdv A outer s H E (am_of hN hbl hr) e vs a b c q h)
theorem Fn.of4 {m : PyData → PyData → PyData → PyData → OP} {mB : PyData → PyData → PyData → PyData → Option (Fl Unit Unit Unit)} {eN : Unit → Rho} (F : Fun K x qual st f fd) (Sc : FnScope N ps (defScope st)) (hm : mg x' = some (.ref f)) (hb : Binds K fd ps []) (hbl : ∀ x ∈ blts, mg x = none) (hN : N.Nodup) (hps : ps.length = 4) (hmB : ∀ a b c d, m a b c d = finF (mB a b c d))
    (body : ∀ (cdv : Value) (A : Around) (outer : List Env) (s : Shared) (H : Hp) (E : XK), Am (cxF P w K mg base N qual st f cdv A outer s H E) k → ∀ (e : En) (vs : List V) (a b c d : PyData), OSs (cxF P w K mg base N qual st f cdv A outer s H E) e ([], vs) (fun cls d _ H => E cls d H) (rho0 N [.dat a, .dat b, .dat c, .dat d]) (defBody st) eN e0 (fun _ _ => True) (mB a b c d)) :
    Fn P w K mg base x' ps (k + 2) (rel4 m) := by
  refine Fn.of F Sc hm hb ?_ ?_
  · rintro ks ks' r ⟨a, b, c, d, v, _, rfl, rfl, rfl⟩
    exact ⟨hps.symm, by simp [keepD]⟩
  · rintro cdv A outer s H E hr e vs ks ks' r ⟨a, b, c, d, v, hv, rfl, rfl, rfl⟩
    rw [hmB] at hv
    cases h : mB a b c d with
    | none => rw [h] at hv; cases hv
    | some q =>
      rw [h] at hv
      exact goal_post (fun _ _ => fin_nil) fin_nil hv (body cdv A outer s H E (am_of hN hbl hr) e vs a b c d q h)
end
end Ov
set_option Elab.async false
set_option linter.all false
set_option maxRecDepth 100000
set_option maxHeartbeats 1000000
namespace Ov
open PySem PySem.Spec PyProof.Rows L2
/-! ### sorting tuples of ints -/
def lexI : List Int → List Int → Bool
  | [], [] => false
  | [], _ :: _ => true
  | _ :: _, [] => false
  | x :: xs, y :: ys => if x = y then lexI xs ys else decide (x < y)
theorem lexI_asym : ∀ {a b : List Int}, lexI a b = true → lexI b a = false
  | [], [], h => by simp [lexI] at h
  | [], _ :: _, _ => rfl
  | _ :: _, [], h => by simp [lexI] at h
  | x :: xs, y :: ys, h => by
    unfold lexI at h ⊢
    by_cases e : x = y
    · rw [if_pos e] at h
      rw [if_pos e.symm]
      exact lexI_asym h
    · rw [if_neg e] at h
      rw [if_neg fun q => e q.symm]
      simp at h ⊢
      omega
theorem lexI_tr : ∀ {a b c : List Int}, lexI b a = false → lexI c b = false → lexI c a = false
  | [], [], c, _, h => h
  | [], y :: ys, c, h1, h2 => by
    cases c with
    | nil => simp [lexI] at h2
    | cons z zs => rfl
  | x :: xs, [], c, h1, h2 => by simp [lexI] at h1
  | x :: xs, y :: ys, [], h1, h2 => by simp [lexI] at h2
  | x :: xs, y :: ys, z :: zs, h1, h2 => by
    unfold lexI at h1 h2 ⊢
    by_cases e1 : y = x
    · rw [if_pos e1] at h1
      by_cases e2 : z = y
      · rw [if_pos e2] at h2
        rw [if_pos (e2.trans e1)]
        exact lexI_tr h1 h2
      · rw [if_neg e2] at h2
        rw [if_neg fun q => e2 (q.trans e1.symm)]
        simp at h2 ⊢
        omega
    · rw [if_neg e1] at h1
      simp at h1
      by_cases e2 : z = y
      · rw [if_neg fun q => e1 (e2 ▸ q)]
        simp
        omega
      · rw [if_neg e2] at h2
        simp at h2
        rw [if_neg (by omega)]
        simp
        omega
theorem lexI_eq : ∀ {a b : List Int}, lexI a b = false → lexI b a = false → a = b
  | [], [], _, _ => rfl
  | [], _ :: _, h, _ => by simp [lexI] at h
  | _ :: _, [], _, h => by simp [lexI] at h
  | x :: xs, y :: ys, h1, h2 => by
    unfold lexI at h1 h2
    by_cases e : x = y
    · subst e
      rw [if_pos rfl] at h1 h2
      rw [lexI_eq h1 h2]
    · rw [if_neg e] at h1
      rw [if_neg fun q => e q.symm] at h2
      simp at h1 h2
      omega
theorem swo_lexI {α : Type} (k : α → List Int) : SrtO.Swo fun v u => lexI (k v) (k u) := ⟨fun _ _ h => lexI_asym h, fun _ _ _ h1 h2 => lexI_tr h1 h2⟩
def insT (x : List Int) : List (List Int) → List (List Int)
  | [] => [x]
  | y :: ys => bif lexI y x then y :: insT x ys else x :: y :: ys
def tsort : List (List Int) → List (List Int)
  | [] => []
  | x :: xs => insT x (tsort xs)
theorem insT_perm (x : List Int) : ∀ ys, (insT x ys).Perm (x :: ys)
  | [] => .refl _
  | y :: ys => by
    unfold insT
    cases lexI y x with
    | true => exact ((insT_perm x ys).cons y).trans (.swap _ _ _)
    | false => exact .refl _
theorem tsort_perm : ∀ xs, (tsort xs).Perm xs
  | [] => .refl _
  | x :: xs => (insT_perm x (tsort xs)).trans ((tsort_perm xs).cons x)
abbrev TSd (l : List (List Int)) : Prop := l.Pairwise fun x y => lexI y x = false
theorem insT_sorted (x : List Int) : ∀ {ys}, TSd ys → TSd (insT x ys)
  | [], _ => List.pairwise_singleton _ _
  | y :: ys, h => by
    unfold insT
    obtain ⟨h1, h2⟩ := List.pairwise_cons.mp h
    cases hl : lexI y x with
    | true =>
      refine List.pairwise_cons.mpr ⟨fun z hz => ?_, insT_sorted x h2⟩
      rcases List.mem_cons.mp ((insT_perm x ys).mem_iff.mp hz) with rfl | hz
      · exact lexI_asym hl
      · exact h1 z hz
    | false =>
      refine List.pairwise_cons.mpr ⟨fun z hz => ?_, h⟩
      rcases List.mem_cons.mp hz with rfl | hz
      · exact hl
      · exact lexI_tr hl (h1 z hz)
theorem tsort_sorted : ∀ xs, TSd (tsort xs)
  | [] => .nil
  | x :: xs => insT_sorted x (tsort_sorted xs)
theorem tsd_unique : ∀ {xs ys : List (List Int)}, xs.Perm ys → TSd xs → TSd ys → xs = ys
  | [], ys, p, _, _ => (List.nil_perm.mp p).symm
  | x :: xs, [], p, _, _ => absurd (List.perm_nil.mp p) (by simp)
  | x :: xs, y :: ys, p, h1, h2 => by
    obtain ⟨a1, a2⟩ := List.pairwise_cons.mp h1
    obtain ⟨b1, b2⟩ := List.pairwise_cons.mp h2
    have ex : x = y := by
      have m1 : y ∈ x :: xs := p.mem_iff.mpr List.mem_cons_self
      have m2 : x ∈ y :: ys := p.mem_iff.mp List.mem_cons_self
      rcases List.mem_cons.mp m1 with z | m1
      · exact z.symm
      · rcases List.mem_cons.mp m2 with z | m2
        · exact z
        · exact lexI_eq (b1 x m2) (a1 y m1)
    subst ex
    rw [tsd_unique (List.Perm.cons_inv p) a2 b2]
theorem tsort_of {xs ms : List (List Int)} (p : ms.Perm xs) (h : TSd ms) : ms = tsort xs := tsd_unique (p.trans (tsort_perm xs).symm) h (tsort_sorted xs)
/-! in the heap -/
def IsTI (h : Heap) (v : Value) (ns : List Int) : Prop := ∃ (a : Addr) (o : Obj) (us : List Value) (n : Nat), v = .ref a ∧ h.get? a = some o ∧ o.cls = .type "tuple" ∧ o.data = .seq us.toArray n ∧ PyProof.Rows.IntsAre us ns
theorem ints_inj : ∀ {us : List Value} {ns ms : List Int}, PyProof.Rows.IntsAre us ns → PyProof.Rows.IntsAre us ms → ns = ms
  | [], _, _, .nil, .nil => rfl
  | _ :: us, _, _, h1, h2 => by
    cases h1 with
    | cons n t r =>
      cases h2 with
      | cons _ _ r' => rw [ints_inj r r']
theorem IsTI.inj {h : Heap} {v : Value} {ns ms : List Int} (a : IsTI h v ns) (b : IsTI h v ms) : ns = ms := by
  obtain ⟨p, o, us, n, rfl, ho, _, hd, hi⟩ := a
  obtain ⟨q, o', us', n', e, ho', _, hd', hi'⟩ := b
  cases e
  rw [ho] at ho'
  cases ho'
  rw [hd] at hd'
  have e2 : us = us' := by
    have := congrArg (fun d => match d with | Data.seq x _ => x.toList | _ => []) hd'
    simpa using this
  subst e2
  exact ints_inj hi hi'
theorem IsTI.keeps {h h' : Heap} {v : Value} {ns : List Int} (p : IsTI h v ns) (k : ∀ b o, h.get? b = some o → o.cls = .type "tuple" → h'.get? b = some o) : IsTI h' v ns := by
  obtain ⟨a, o, us, n, e, ho, hc, hd, hi⟩ := p
  exact ⟨a, o, us, n, e, k _ _ ho hc, hc, hd, hi⟩
section
variable {prog : Program} {w : World} {A : Around} {E : Value → Shared → Prop} {s : Shared}
theorem lex_walk {fin : Bool} {Q : Bool → Shared → Prop} : ∀ (us vs : List Value) (ns ms : List Int) (i : Nat), PyProof.Rows.IntsAre us ns → PyProof.Rows.IntsAre vs ms → (∀ r, (r = lexI ns ms) → Q r s) → fin = decide (i + us.length < i + vs.length) → PySem.W.KatLex prog w A true fin Q (us.zip vs) i s
  | [], [], _, _, i, .nil, .nil, q, hf => by
    refine PySem.W.kat_nil (q _ ?_)
    rw [hf]
    simp [lexI]
  | [], _ :: vs, _, _, i, .nil, .cons m t r, q, hf => by
    refine PySem.W.kat_nil (q _ ?_)
    rw [hf]
    simp [lexI]
  | _ :: us, [], _, _, i, .cons n t r, .nil, q, hf => by
    refine PySem.W.kat_nil (q _ ?_)
    rw [hf]
    simp [lexI]
  | _ :: us, _ :: vs, _, _, i, .cons n t r, .cons m t' r', q, hf => by
    refine PySem.W.kat_cons (SeqAt.EqAt.int_int n t m t' prog w _ _ (PySem.W.kat_go (fun e1 => ?_) fun e1 => ?_))
    · have ex : n = m := by simpa using e1
      refine PySem.W.kat_yes (lex_walk us vs _ _ (i + 1) r r' (fun b hb => q b ?_) ?_)
      · rw [hb]
        show _ = if n = m then lexI _ _ else decide (n < m)
        rw [if_pos ex]
      · rw [hf]
        simp only [List.length_cons]
        apply decide_eq_decide.mpr
        omega
    · have ex : ¬ n = m := by simpa using e1
      refine PySem.W.kat_no (TS.oneLt_ints _ (q _ ?_))
      show _ = if n = m then lexI _ _ else decide (n < m)
      rw [if_neg ex]
theorem ti_firsts {h : Heap} : ∀ {vs : List Value}, (∀ v ∈ vs, ∃ ns, IsTI h v ns ∧ ns ≠ []) → ∃ fs : List Value, PySem.W.KatTups h vs fs ∧ fs.length = vs.length ∧ ∀ f ∈ fs, ∃ x t, f = Value.int x t
  | [], _ => ⟨[], PySem.W.KatTups.nil, rfl, fun _ hm => by simp at hm⟩
  | v :: vs, hp => by
    obtain ⟨fs, h1, h2, h3⟩ := ti_firsts (vs := vs) fun v' hm => hp v' (List.mem_cons_of_mem _ hm)
    obtain ⟨ns, ⟨a, o, us, n, rfl, ho, hc, hd, hi⟩, hne⟩ := hp v List.mem_cons_self
    cases hi with
    | nil => exact absurd rfl hne
    | cons x t r =>
      refine ⟨.int x t :: fs, PySem.W.KatTups.cons ho hc hd rfl h1, by rw [List.length_cons, List.length_cons, h2], fun f hm => ?_⟩
      rcases List.mem_cons.mp hm with rfl | hm
      · exact ⟨x, t, rfl⟩
      · exact h3 f hm
/-- the key of a value, as the heap tells it -/
noncomputable def keyTI (h : Heap) (v : Value) : List Int := by
  classical
  exact if q : ∃ ns, IsTI h v ns then Classical.choose q else []
theorem keyTI_eq {h : Heap} {v : Value} {ns : List Int} (p : IsTI h v ns) : keyTI h v = ns := by
  have q : ∃ ns, IsTI h v ns := ⟨ns, p⟩
  unfold keyTI
  rw [dif_pos q]
  exact (Classical.choose_spec q).inj p
theorem ti_sortable {a : Addr} {vs : List Value} (h0 : 0 < vs.length) (hp : ∀ v ∈ vs, ∃ ns, IsTI s.heap v ns ∧ ns ≠ []) (ha : ∀ o, s.heap.get? a = some o → o.cls ≠ .type "tuple") : SrtO.SortableO prog w A s a vs fun v u => lexI (keyTI s.heap v) (keyTI s.heap u) := by
  intro h' keep
  have kp : ∀ v ns, IsTI s.heap v ns → IsTI h' v ns := fun v ns p => p.keeps fun b o e c => keep b o (fun z => by subst z; exact ha o e c) e
  obtain ⟨fs, h1, h2, h3⟩ := ti_firsts (h := h') fun v hm => (hp v hm).imp fun ns q => ⟨kp v ns q.1, q.2⟩
  refine ⟨tuples' true, fun Q E hq => ?_, fun p q hm hm' => ?_⟩
  · refine PySem.W.kat_kind (T := .type "int") h1 (by omega) (fun f hm => ?_) (by rfl) ?_
    · obtain ⟨x, t, rfl⟩ := h3 f hm
      exact PySem.W.Looks.now
    · have e1 : (Value.type "int" != Value.type "tuple") = true := by decide +kernel
      rw [e1]
      exact hq
  · obtain ⟨ns, g1, _⟩ := hp _ hm
    obtain ⟨ms, g2, _⟩ := hp _ hm'
    show wpAny (model prog w) A (keyLt' (tuples' true) p.1 q.1) (fun r s' => s' = { s with heap := h' } ∧ r = lexI (keyTI s.heap p.1) (keyTI s.heap q.1)) (fun _ _ => False) { s with heap := h' }
    rw [keyTI_eq g1, keyTI_eq g2]
    obtain ⟨b, o, us, n, e1, ho, hc, hd, hi⟩ := kp _ _ g1
    obtain ⟨b', o', us', n', e1', ho', hc', hd', hi'⟩ := kp _ _ g2
    rw [e1, e1']
    refine PySem.W.kat_lt ho hd ho' hd' (lex_walk us us' ns ms 0 hi hi' (fun r hr => ⟨rfl, hr⟩) ?_)
    rw [List.size_toArray, List.size_toArray, Nat.zero_add, Nat.zero_add]
theorem perm_lift {α β : Type} {f : α → β} {m n : List β} (h : m.Perm n) : ∀ {l : List α}, n = l.map f → ∃ l' : List α, l'.Perm l ∧ m = l'.map f := by
  induction h with
  | nil => intro l e; exact ⟨l, .refl _, e⟩
  | cons x _ ih =>
    intro l e
    cases l with
    | nil => cases e
    | cons a l =>
      rw [List.map_cons] at e
      cases e
      obtain ⟨l', p, e2⟩ := ih rfl
      exact ⟨a :: l', p.cons a, by rw [e2, List.map_cons]⟩
  | swap x y l0 =>
    intro l e
    cases l with
    | nil => cases e
    | cons a l =>
      cases l with
      | nil => cases e
      | cons b l =>
        rw [List.map_cons, List.map_cons] at e
        cases e
        exact ⟨b :: a :: l, .swap _ _ _, rfl⟩
  | trans _ _ ih1 ih2 =>
    intro l e
    obtain ⟨l1, p1, e1⟩ := ih2 e
    obtain ⟨l2, p2, e2⟩ := ih1 e1
    exact ⟨l2, p2.trans p1, e2⟩
end
/-- sorted of a list of tuples of ints -/
def rSortTs (K : PySem.W.Frag) : List V → Hp → VK → Prop := fun vs H Q => ∃ (a : Addr) (ps : List (Addr × List Int)), vs = [V.ref a] ∧ SqL K H a (ps.map fun p => V.ref p.1) ∧ (∀ p ∈ ps, SqT K H p.1 (p.2.map V.int)) ∧ (2 ≤ ps.length → ∀ p ∈ ps, p.2 ≠ []) ∧
  ∀ (ps' : List (Addr × List Int)) (p : Addr), ps'.Perm ps → TSd (ps'.map (·.2)) → H p = none → Q (.ref p) (upd H p (.lst (ps'.map fun p => V.ref p.1)))
theorem vals_rp : ∀ ps : List (Addr × List Int), Vals (ps.map fun p => V.ref p.1) (ps.map fun p => Value.ref p.1)
  | [] => .nil
  | _ :: r => .cons rfl (vals_rp r)
theorem cr_sortTs {X : Cx} : CallR X (.builtin "sorted") (rSortTs X.K) := by
  intro pins s σ H vs us Q I r h
  obtain ⟨a, ps, rfl, hs, ht, hne, q⟩ := h
  obtain ⟨its, rv, pl, hz⟩ := I.list hs
  rw [Vals.ref1 r]
  have hin : its = ps.map fun p => Value.ref p.1 := by
    have g : ∀ {ps : List (Addr × List Int)} {its : List Value}, Vals (ps.map fun p => V.ref p.1) its → its = ps.map fun p => Value.ref p.1 := by
      intro ps
      induction ps with
      | nil => intro its r; cases r; rfl
      | cons p ps ih => intro its r; cases r with | cons r1 r2 => cases r1; rw [ih r2]; rfl
    exact g rv
  have key : ∀ p ∈ ps, IsTI s.heap (.ref p.1) p.2 := fun p mp => by
    obtain ⟨us, r1, ⟨o, ho, hc, n, hd⟩, _⟩ := I.tuple (ht p mp)
    exact ⟨p.1, o, us, _, rfl, ho, hc, hd, r1.ints⟩
  have hz2 : its.length ≤ sizeLine := by rw [← rv.length]; exact hz
  refine SrtO.sorted_ord (ltv := fun v u => lexI (keyTI s.heap v) (keyTI s.heap u)) (swo_lexI _) pl.isList hz2 (fun h2 h1 b hb kk => ?_) fun out o1 o2 => ?_
  · have keq : ∀ v ns, IsTI s.heap v ns → IsTI h1 v ns := fun v ns p => p.keeps fun b o e _ => (kk b o e).2
    have e1 : ∀ v ∈ its, ∃ ns, IsTI h1 v ns ∧ ns ≠ [] := fun v hv => by
      rw [hin] at hv
      obtain ⟨p, mp, rfl⟩ := List.mem_map.mp hv
      exact ⟨p.2, keq _ _ (key p mp), hne (by rw [hin, List.length_map] at h2; exact h2) p mp⟩
    have g := ti_sortable (prog := X.prog) (w := X.w) (A := X.A.in1.in1) (s := { s with heap := h1 }) (a := b) (vs := its) (by omega) e1 fun o e c => by
      have e' : some o = some (seqObj "list" its.toArray 0) := e.symm.trans hb
      cases e'
      exact absurd (Value.type.inj c) (by decide)
    intro h' keep
    obtain ⟨κ, g1, g2⟩ := g h' keep
    refine ⟨κ, g1, fun p q hp hq => ?_⟩
    have e2 : ∀ v ∈ its, keyTI h1 v = keyTI s.heap v := fun v hv => by
      rw [hin] at hv
      obtain ⟨p, mp, rfl⟩ := List.mem_map.mp hv
      rw [keyTI_eq (keq _ _ (key p mp)), keyTI_eq (key p mp)]
    have g3 := g2 p q hp hq
    have e3 : SrtO.lt2 (fun v u => lexI (keyTI s.heap v) (keyTI s.heap u)) p q = SrtO.lt2 (fun v u => lexI (keyTI h1 v) (keyTI h1 u)) p q := by
      show lexI (keyTI s.heap p.1) (keyTI s.heap q.1) = lexI (keyTI h1 p.1) (keyTI h1 q.1)
      rw [e2 _ hp, e2 _ hq]
    rw [e3]
    exact g3
  · obtain ⟨ps', pp, eo⟩ := perm_lift (f := fun p : Addr × List Int => Value.ref p.1) (l := ps) o2.perm hin
    have sd : TSd (ps'.map (·.2)) := by
      rw [eo] at o1
      have g : ∀ {l : List (Addr × List Int)}, (∀ p ∈ l, p ∈ ps) → SrtO.Srtd (fun v u => lexI (keyTI s.heap v) (keyTI s.heap u)) (l.map fun p => Value.ref p.1) → TSd (l.map (·.2)) := by
        intro l
        induction l with
        | nil => intro _ _; exact .nil
        | cons p l ih =>
          intro hm hs
          rw [List.map_cons] at hs ⊢
          obtain ⟨s1, s2⟩ := List.pairwise_cons.mp hs
          refine List.pairwise_cons.mpr ⟨fun y hy => ?_, ih (fun p m => hm p (List.mem_cons_of_mem _ m)) s2⟩
          obtain ⟨q, mq, rfl⟩ := List.mem_map.mp hy
          have this : lexI (keyTI s.heap (.ref q.1)) (keyTI s.heap (.ref p.1)) = false := s1 _ (List.mem_map_of_mem mq)
          rw [keyTI_eq (key q (hm q (List.mem_cons_of_mem _ mq))), keyTI_eq (key p (hm p List.mem_cons_self))] at this
          exact this
      exact g (fun p m => pp.mem_iff.mp m) o1
    obtain ⟨ep, at1⟩ := PyProof.Rows.sortedAll_at s.heap its out.toArray
    have hl2 : (ps'.map fun p => V.ref p.1).length ≤ sizeLine := by
      rw [List.length_map, pp.length_eq, ← List.length_map (f := fun p : Addr × List Int => V.ref p.1)]
      exact hz
    refine ⟨.ref _, upd H (s.heap.objs.size + 1) (.lst (ps'.map fun p => V.ref p.1)), I.laid (t' := s.toks) (fun _ _ => PyProof.Rows.sortedAll_old) (Nat.le_succ _) ⟨hl2, out, ep, by rw [eo]; exact vals_rp ps', at1⟩, rfl, q ps' _ pp sd (I.hok.fresh (Nat.le_succ _))⟩
/-- a list of tuples of ints -/
abbrev tIs (l : List (List Int)) : List PyData := l.map fun ns => .tuple (ns.map .int)
section
variable {X : Cx} {e : En} {ρ ρ1 : Rho} {ea : Expr} {pos p : Pos}
theorem dal_ti {K : PySem.W.Frag} {S : Hp} : ∀ {l : List (List Int)} {xs : List V}, DaL K S (tIs l) xs → ∃ ps : List (Addr × List Int), xs = ps.map (fun p => V.ref p.1) ∧ ps.map (·.2) = l ∧ ∀ p ∈ ps, SqT K S p.1 (p.2.map V.int)
  | [], xs, h => by
    simp only [tIs, List.map_nil, DaL] at h
    exact ⟨[], h, rfl, by simp⟩
  | ns :: l, xs, h => by
    simp only [tIs, List.map_cons, DaL] at h
    obtain ⟨v, vs, rfl, h1, h2⟩ := h
    obtain ⟨a, ys, rfl, e1, hd⟩ := mem_dat.mp h1
    rw [DaL.ints hd] at e1
    obtain ⟨ps, rfl, e2, h3⟩ := dal_ti (l := l) h2
    refine ⟨(a, ns) :: ps, rfl, by rw [List.map_cons, e2], fun p mp => ?_⟩
    rcases List.mem_cons.mp mp with rfl | mp
    · exact e1
    · exact h3 p mp
theorem dal_of_ti {K : PySem.W.Frag} {S : Hp} : ∀ {ps : List (Addr × List Int)}, (∀ p ∈ ps, SqT K S p.1 (p.2.map V.int)) → DaL K S (tIs (ps.map (·.2))) (ps.map fun p => V.ref p.1)
  | [], _ => DaL.nil
  | p :: ps, h => DaL.cons (mem_dat.mpr ⟨p.1, _, rfl, h p List.mem_cons_self, DaL.of_ints _⟩) (dal_of_ti fun q m => h q (List.mem_cons_of_mem _ m))
theorem dx_sortTs {l : List (List Int)} (ha : DX X e ρ ea ρ1 (.dat (.list (tIs l)))) (hne : 2 ≤ l.length → ∀ ns ∈ l, ns ≠ []) (hm : X.mg "sorted" = none) (hg : Gl X "sorted" := by rfl) (he : starEach [ea] X.env = (false, eval ea X.env) :: starEach [] X.env := by rfl) : DX X e ρ (.Call (.Name "sorted" p) [ea] [] pos) ρ1 (.ml (tIs (tsort l))) :=
  dx_B (ds := [.list (tIs l)]) cr_sortTs (fun e L H S vs Q o h q => by
    simp only [DaL] at h
    obtain ⟨v, _, rfl, h, rfl⟩ := h
    obtain ⟨a, xs, rfl, e1, hd⟩ := mem_da.mp h
    obtain ⟨ps, rfl, e2, h3⟩ := dal_ti hd
    have hlen : ps.length = l.length := by rw [← e2, List.length_map]
    refine ⟨a, ps, rfl, SqL.of (o.same _ _ e1), fun p mp => same_t o.same (h3 p mp), fun h2 p mp => hne (by omega) p.2 (by rw [← e2]; exact List.mem_map_of_mem mp), fun ps' p pp sd hp => ?_⟩
    have e3 : ps'.map (·.2) = tsort l := by
      rw [← e2]
      exact tsort_of (pp.map _) sd
    refine q _ _ S (o.newO hp (fun xs z => by cases z) ?_)
    simp only [Ho]
    rw [← e3]
    exact ⟨p, _, rfl, rfl, upd_same, dal_of_ti fun p mp => h3 p (pp.mem_iff.mp mp)⟩) hm (by decide +kernel) (da_cons ha da_nil he) hg (by decide) (by decide) he (by rfl)
end
end Ov
set_option Elab.async false
set_option linter.all false
set_option maxRecDepth 100000
set_option maxHeartbeats 1000000
namespace Ov
open PySem PySem.Spec PyProof.Rows L2
/-! ### more, with what is computed -/
def pTI : PyData → Option (List Int)
  | .tuple ds => pInts ds
  | _ => none
def pTIs : List PyData → Option (List (List Int))
  | [] => some []
  | d :: ds => (pTI d).bind fun ns => (pTIs ds).map (ns :: ·)
theorem pTI_eq {d : PyData} {ns : List Int} (h : pTI d = some ns) : d = .tuple (ns.map .int) := by
  unfold pTI at h
  split at h
  · rw [pInts_eq h]
  · cases h
theorem pTIs_eq : ∀ {ds : List PyData} {l : List (List Int)}, pTIs ds = some l → ds = tIs l
  | [], l, h => by simp [pTIs] at h; subst h; rfl
  | d :: ds, l, h => by
    simp only [pTIs] at h
    obtain ⟨ns, h1, h⟩ := ob h
    obtain ⟨l', h2, e0⟩ := om h
    subst e0
    rw [pTI_eq h1, pTIs_eq h2]
    rfl
/-- sorted(x): ints, or a list of tuples of ints -/
def pSort : PyData → Option (List PyData)
  | .tuple ds => (pInts ds).map fun ns => (isort ns).map .int
  | .list ds => match pInts ds with
    | some ns => some ((isort ns).map .int)
    | none => (pTIs ds).bind fun l => if l.length < 2 ∨ l.all (fun ns => !ns.isEmpty) = true then some (tIs (tsort l)) else none
  | _ => none
/-- two comparisons in a chain -/
def pCh (f g : PyData → PyData → Option Bool) (a b c : PyData) : Option Bool := (f a b).bind fun x => (g b c).map fun y => x && y
section
variable {X : Cx} {e : En} {ρ : Rho} {ea eb ec ex tg : Expr} {es : List Expr} {pos p p2 p3 : Pos} {lv : Nat} {ma mb mc : OP} {ta tb : Option Bool}
theorem om_sort (am : Am X lv) (ha : OX X e ρ ea ma) (hg : Gl X "sorted" := by rfl) (he : starEach [ea] X.env = (false, eval ea X.env) :: starEach [] X.env := by rfl) : OM X e ρ (.Call (.Name "sorted" p) [ea] [] pos) (ma.bind pSort) := fun d z => by
  obtain ⟨a, h1, z⟩ := ob z
  have ha := ha a h1
  unfold pSort at z
  split at z
  · obtain ⟨ns, h2, e0⟩ := om z
    subst e0
    rw [pInts_eq h2] at ha
    exact dx_sortT ha am.m hg he
  · split at z
    · rename_i ns h2
      cases z
      rw [pInts_eq h2] at ha
      exact dx_sortL ha am.m hg he
    · obtain ⟨l, h2, z⟩ := ob z
      obtain ⟨hz, z⟩ := oi z
      cases z
      rw [pTIs_eq h2] at ha
      refine dx_sortTs ha (fun h3 ns mn => ?_) am.m hg he
      rcases hz with hz | hz
      · omega
      · have := List.all_eq_true.mp hz ns mn
        cases ns with
        | nil => cases this
        | cons _ _ => intro q; cases q
  · cases z
/-! small displays -/
theorem ox_tup0 {x1} : OX X e ρ (.Tuple [] x1 pos) (some (.tuple [])) := fun d z => by cases z; exact dx_tup (ds := []) da_nil
theorem ox_tup1 {x1} (ha : OX X e ρ ea ma) (he : starEach [ea] X.env = (false, eval ea X.env) :: starEach [] X.env := by rfl) : OX X e ρ (.Tuple [ea] x1 pos) (ma.map fun a => .tuple [a]) := fun d z => by
  obtain ⟨a, h1, e0⟩ := om z
  subst e0
  exact dx_tup (ds := [a]) (da_cons (ha a h1) da_nil he) (by rw [sizeLine_eq]; exact (by decide : 1 ≤ 16777216))
theorem ox_tup2 {x1} (ha : OX X e ρ ea ma) (hb : OX X e ρ eb mb) (he : starEach [ea, eb] X.env = (false, eval ea X.env) :: starEach [eb] X.env := by rfl) (he2 : starEach [eb] X.env = (false, eval eb X.env) :: starEach [] X.env := by rfl) : OX X e ρ (.Tuple [ea, eb] x1 pos) (ma.bind fun a => mb.map fun b => .tuple [a, b]) := fun d z => by
  obtain ⟨a, h1, z⟩ := ob z
  obtain ⟨b, h2, e0⟩ := om z
  subst e0
  exact dx_tup (ds := [a, b]) (da_cons (ha a h1) (da_cons (hb b h2) da_nil he2) he) (by rw [sizeLine_eq]; exact (by decide : 2 ≤ 16777216))
theorem ox_tup3 {x1} (ha : OX X e ρ ea ma) (hb : OX X e ρ eb mb) (hc : OX X e ρ ec mc) (he : starEach [ea, eb, ec] X.env = (false, eval ea X.env) :: starEach [eb, ec] X.env := by rfl) (he2 : starEach [eb, ec] X.env = (false, eval eb X.env) :: starEach [ec] X.env := by rfl) (he3 : starEach [ec] X.env = (false, eval ec X.env) :: starEach [] X.env := by rfl) : OX X e ρ (.Tuple [ea, eb, ec] x1 pos) (ma.bind fun a => mb.bind fun b => mc.map fun c => .tuple [a, b, c]) := fun d z => by
  obtain ⟨a, h1, z⟩ := ob z
  obtain ⟨b, h2, z⟩ := ob z
  obtain ⟨c, h3, e0⟩ := om z
  subst e0
  exact dx_tup (ds := [a, b, c]) (da_cons (ha a h1) (da_cons (hb b h2) (da_cons (hc c h3) da_nil he3) he2) he) (by rw [sizeLine_eq]; exact (by decide : 3 ≤ 16777216))
theorem om_lst0 : OM X e ρ (.List [] pos) (some []) := fun d z => by cases z; exact dx_lst (ds := []) da_nil
theorem om_lst1 (ha : OX X e ρ ea ma) (he : starEach [ea] X.env = (false, eval ea X.env) :: starEach [] X.env := by rfl) : OM X e ρ (.List [ea] pos) (ma.map fun a => [a]) := fun d z => by
  obtain ⟨a, h1, e0⟩ := om z
  subst e0
  exact dx_lst (ds := [a]) (da_cons (ha a h1) da_nil he) (by rw [sizeLine_eq]; exact (by decide : 1 ≤ 16777216))
theorem om_lst2 (ha : OX X e ρ ea ma) (hb : OX X e ρ eb mb) (he : starEach [ea, eb] X.env = (false, eval ea X.env) :: starEach [eb] X.env := by rfl) (he2 : starEach [eb] X.env = (false, eval eb X.env) :: starEach [] X.env := by rfl) : OM X e ρ (.List [ea, eb] pos) (ma.bind fun a => mb.map fun b => [a, b]) := fun d z => by
  obtain ⟨a, h1, z⟩ := ob z
  obtain ⟨b, h2, e0⟩ := om z
  subst e0
  exact dx_lst (ds := [a, b]) (da_cons (ha a h1) (da_cons (hb b h2) da_nil he2) he) (by rw [sizeLine_eq]; exact (by decide : 2 ≤ 16777216))
/-! chains -/
theorem ch_lt {a b : PyData} {c : Bool} (h : pLt a b = some c) : ∃ i j, a = .int i ∧ b = .int j ∧ c = decide (i < j) := by
  unfold pLt at h
  split at h
  · cases h; exact ⟨_, _, rfl, rfl, rfl⟩
  · cases h
theorem ch_le {a b : PyData} {c : Bool} (h : pLe a b = some c) : ∃ i j, a = .int i ∧ b = .int j ∧ c = decide (i ≤ j) := by
  unfold pLe at h
  split at h
  · cases h; exact ⟨_, _, rfl, rfl, rfl⟩
  · cases h
theorem ot_chain {op op' : CmpOp} {f g : PyData → PyData → Option Bool} (q q' : Int → Int → Bool) (ho : OpR X (compareOp op) (rI0 fun i j => .bl (q i j))) (ho' : OpR X (compareOp op') (rI0 fun i j => .bl (q' i j))) (hf : ∀ {a b c}, f a b = some c → ∃ i j, a = .int i ∧ b = .int j ∧ c = q i j) (hg : ∀ {a b c}, g a b = some c → ∃ i j, a = .int i ∧ b = .int j ∧ c = q' i j)
    (ha : OX X e ρ ea ma) (hb : OX X e ρ eb mb) (hc : OX X e ρ ec mc) (hm : lastMarks [op, op'] [eb, ec] = false := by with_unfolding_all rfl) : OT X e ρ (.Compare ea [op, op'] [eb, ec] pos) (ma.bind fun a => mb.bind fun b => mc.bind fun c => pCh f g a b c) := fun r z => by
  obtain ⟨a, h1, z⟩ := ob z
  obtain ⟨b, h2, z⟩ := ob z
  obtain ⟨c, h3, z⟩ := ob z
  obtain ⟨x, h4, z⟩ := ob z
  obtain ⟨y, h5, e0⟩ := om z
  obtain ⟨i, j, rfl, rfl, rfl⟩ := hf h4
  obtain ⟨j', l, e1, rfl, rfl⟩ := hg h5
  cases e1
  subst e0
  exact dt_chain ho ho' (ha _ h1) (hb _ h2) (hc _ h3) hm
theorem ox_chain {op op' : CmpOp} {f g : PyData → PyData → Option Bool} (q q' : Int → Int → Bool) (ho : OpR X (compareOp op) (rI0 fun i j => .bl (q i j))) (ho' : OpR X (compareOp op') (rI0 fun i j => .bl (q' i j))) (hf : ∀ {a b c}, f a b = some c → ∃ i j, a = .int i ∧ b = .int j ∧ c = q i j) (hg : ∀ {a b c}, g a b = some c → ∃ i j, a = .int i ∧ b = .int j ∧ c = q' i j)
    (ha : OX X e ρ ea ma) (hb : OX X e ρ eb mb) (hc : OX X e ρ ec mc) (hm : lastMarks [op, op'] [eb, ec] = false := by with_unfolding_all rfl) : OX X e ρ (.Compare ea [op, op'] [eb, ec] pos) ((ma.bind fun a => mb.bind fun b => mc.bind fun c => pCh f g a b c).map .bool) := fun r z => by
  obtain ⟨w, z0, e9⟩ := om z
  obtain ⟨a, h1, z1⟩ := ob z0
  obtain ⟨b, h2, z2⟩ := ob z1
  obtain ⟨c, h3, z3⟩ := ob z2
  obtain ⟨x, h4, z4⟩ := ob z3
  obtain ⟨y, h5, e0⟩ := om z4
  obtain ⟨i, j, rfl, rfl, rfl⟩ := hf h4
  obtain ⟨j', l, e1, rfl, rfl⟩ := hg h5
  cases e1
  subst e0 e9
  exact dx_chain ho ho' (ha _ h1) (hb _ h2) (hc _ h3) hm
section
variable {σ β τ : Type} {eN : σ → Rho} {eB : β → Rho} {G : τ → Rho → Prop} {rest body els : List Stmt} {pn : Pins} {W : L2.WX}
/-- x += e and its like, on an int -/
theorem oss_op {op : Operator} {f : Int → Int → Int} {g : PyData → PyData → OP} {d : PyData} {mr : PyData → Option (Fl σ β τ)} (am : Am X lv) (i : Nat) {x : Str} {p' : Pos} (he : OX X e ρ ex ma) (ho : PIp X op (ipI f)) (hg : ∀ {a b c}, g a b = some c → ∃ i j, a = .int i ∧ b = .int j ∧ c = .int (f i j)) (h2 : ∀ b, OSs X e pn W (ρ.set i (some (.dat b))) rest eN eB G (mr b)) (hρ : ρ[i]? = some (some (.dat d)) := by rfl) (hx : X.N[i]? = some x := by rfl) (hv : Loc X.env.scope x := by first | exact Or.inl rfl | exact Or.inr rfl) (hu : unp pn [i] = true := by rfl)
    (hf : X.fn x = true ∨ X.env.scope.names.lookup x = some .local := by first | exact .inl rfl | exact .inr rfl | assumption) : OSs X e pn W ρ (.AugAssign (.Name x p') op ex pos :: rest) eN eB G ((ma.bind fun b => g d b).bind mr) := fun r z => by
  obtain ⟨c, h1, z⟩ := ob z
  obtain ⟨b, h3, h1⟩ := ob h1
  obtain ⟨k, j, e1, e2, e3⟩ := hg h1
  subst e1 e2 e3
  exact dss_aug i (he _ h3) ho (h2 _ r z) am.nod hρ hx hv (ixlt (by rw [hρ]; rfl)) hu hf
theorem gp_sub {a b c : PyData} (h : pSub a b = some c) : ∃ i j, a = .int i ∧ b = .int j ∧ c = .int (i - j) := by
  unfold pSub at h
  split at h
  · cases h; exact ⟨_, _, rfl, rfl, rfl⟩
  · cases h
/-- ints alone -/
def iAdd : PyData → PyData → OP
  | .int i, .int j => some (.int (i + j))
  | _, _ => none
theorem gp_add {a b c : PyData} (h : iAdd a b = some c) : ∃ i j, a = .int i ∧ b = .int j ∧ c = .int (i + j) := by
  unfold iAdd at h
  split at h
  · cases h; exact ⟨_, _, rfl, rfl, rfl⟩
  · cases h
/-- x = [e for ..] on one line -/
theorem oss_lc {υ : Type} {un : PyData → Option υ} {c : υ → Option Bool} {f : υ → OP} {elt iter : Expr} {ifs : List Expr} {scope : Scope} {own : List (Str × Nat)} {mi : Option (List PyData)} {y : Str} {py spos : Pos} {mr : List PyData → Option (Fl σ β τ)} (am : Am X lv) (i : Nat) (ρd : υ → Rho) (ts : List Nat) (hi : OI X e ρ tg iter mi) (ok : BlkOk X.N X.env.scope scope own)
    (hg : ∀ (s : Shared) (H : Hp) (C : Addr) (cl : List (Str × Addr)) (fp : List Addr), Am (X.blk s H scope (compEnvC scope cl C X.env) fp) lv → OG (X.blk s H scope (compEnvC scope cl C X.env) fp) e (wipeR ρ (own.map (·.2))) tg un ρd ts)
    (ht : ∀ (s : Shared) (H : Hp) (C : Addr) (cl : List (Str × Addr)) (fp : List Addr) (t : υ), Am (X.blk s H scope (compEnvC scope cl C X.env) fp) lv → OTs (X.blk s H scope (compEnvC scope cl C X.env) fp) e (ρd t) ifs (c t))
    (he : ∀ (s : Shared) (H : Hp) (C : Addr) (cl : List (Str × Addr)) (fp : List Addr) (t : υ), Am (X.blk s H scope (compEnvC scope cl C X.env) fp) lv → OX (X.blk s H scope (compEnvC scope cl C X.env) fp) e (ρd t) elt (f t))
    (h2 : ∀ ds, OSs X e pn W (ρ.set i (some (.ml ds))) rest eN eB G (mr ds)) (hsw : swapsWith (.ListComp elt [⟨tg, iter, ifs, 0⟩] scope pos) (some (.Name y py)) spos.line X.env = pure true := by rfl) (hyl : X.env.scope.names.lookup y = some .local := by rfl) (hy : X.N[i]? = some y := by rfl) (hl : (ρ[i]?).isSome = true := by rfl) (hu : unp pn [i] = true := by rfl)
    (hts : ∀ t ∈ ts, t ∈ own.map (·.2) := by decide) (hw : ∀ t, wipeR (ρd t) (own.map (·.2)) = wipeR ρ (own.map (·.2)) := by intro _; rfl) (hs : ∀ x, foldedSetIterable iter X.env x = pure x := by intro _; rfl) :
    OSs X e pn W ρ (.Assign [.Name y py] (.ListComp elt [⟨tg, iter, ifs, 0⟩] scope pos) spos :: rest) eN eB G ((mi.bind (compF un c f)).bind mr) := fun r z => by
  obtain ⟨ys, h0, z⟩ := ob z
  obtain ⟨ds, h1, h0⟩ := ob h0
  obtain ⟨rfl, g⟩ := compF_eq h0
  have am2 : ∀ (s : Shared) (H : Hp) (C : Addr) (cl : List (Str × Addr)) (fp : List Addr), Am (X.blk s H scope (compEnvC scope cl C X.env) fp) lv := fun _ _ _ _ _ => ⟨am.calm, am.nod, am.room, am.bl⟩
  refine dss_setLc (l := ds) (enc := fun d => d) (c := cOf un c) (f := fOf un f) i (fun d => ((un d).map ρd).getD []) ts am.nod am.calm (by rw [List.map_id']; exact hi ds h1) ok (fun s H C cl fp d md => ?_) (fun s H C cl fp d md => ?_) (fun s H C cl fp d md hc => ?_) hts (fun d md => ?_) (h2 _ r z) hsw hyl hy (ixlt hl) hu hs
  · obtain ⟨t, h2, h3, h4⟩ := g d md
    rw [h2]
    exact hg s H C cl fp (am2 ..) d t h2
  · obtain ⟨t, h2, h3, h4⟩ := g d md
    rw [h2]
    exact ht s H C cl fp t (am2 ..) _ h3
  · obtain ⟨t, h2, h3, h4⟩ := g d md
    rw [h2]
    exact he s H C cl fp t (am2 ..) _ (h4 hc)
  · obtain ⟨t, h2, h3, h4⟩ := g d md
    rw [h2]
    exact hw t
end
end
end Ov
set_option Elab.async false
set_option linter.all false
set_option maxRecDepth 100000
set_option maxHeartbeats 1000000
namespace Ov
open PySem PySem.Spec PyProof.Rows L2
section
variable {X : Cx} {e : En} {ρ ρ1 : Rho} {ea eb ec ex tg : Expr} {es : List Expr} {pos p p2 p3 : Pos} {lv : Nat} {ma mb mc : OP} {ta tb : Option Bool} {pn : Pins} {W : L2.WX}
def ipM : TIp := fun x y H Q => ∃ i j, x = .int i ∧ y = .int j ∧ CMul i j ∧ Q (.int (i * j)) H
theorem ip_mul : PIp X .Mult ipM := by
  intro pins s σ H x y v u Q I r1 r2 ⟨i, j, e1, e2, hc, q⟩
  subst e1 e2
  obtain ⟨t, rfl⟩ := r1
  obtain ⟨t', rfl⟩ := r2
  exact PyProof.Rows.imul_int ⟨.int _, H, I.tok _, ⟨_, rfl⟩, q⟩ hc.ok
theorem dss_augG {P : Po} {rest : List Stmt} (i : Nat) {x : Str} {p' : Pos} {op : Operator} {ti : TIp} {a b c : Int} (he : DX X e ρ ex ρ1 (.dat (.int b))) (ho : PIp X op ti) (hti : ∀ H Q, Q (.int c) H → ti (.int a) (.int b) H Q) (h2 : DSs X e pn W (ρ1.set i (some (.dat (.int c)))) rest P) (hN : X.N.Nodup) (hρ : ρ[i]? = some (some (.dat (.int a)))) (hx : X.N[i]? = some x) (hv : Loc X.env.scope x) (hi : i < ρ1.length) (hu : unp pn [i] = true)
    (hf : X.fn x = true ∨ X.env.scope.names.lookup x = some .local) : DSs X e pn W ρ (.AugAssign (.Name x p') op ex pos :: rest) P :=
  dss_one (ρ1 := ρ1.set i (some (.dat (.int c)))) (PS.mono (ps_aug hN hx hv he ho hf) fun D σ H ⟨S, stk, cv, pi, o, C⟩ => by
    obtain ⟨v, e1, hv⟩ := o.slot cv hρ
    simp only [Da] at hv
    subst hv
    refine ⟨_, e1, S, stk, cv, o, fun y H1 S1 c1 o1 => ?_⟩
    have hy := o1.dat
    simp only [Da] at hy
    subst hy
    refine hti H1 _ ?_
    obtain ⟨o2, c2⟩ := Os.store (L := stk) hi c1 (o1.drop.push (da_int (i := c) X.K S1))
    exact C.nx _ _ _ S1 rfl c2 (pi.keep hu slots_set) o2) h2
section
variable {σ β τ : Type} {eN : σ → Rho} {eB : β → Rho} {G : τ → Rho → Prop} {rest body els : List Stmt}
theorem oss_none {st : List Stmt} : OSs X e pn W ρ st eN eB G none := fun _ z => by cases z
theorem oss_aug' {op : Operator} {ti : TIp} {g : PyData → PyData → OP} {d : PyData} {mr : PyData → Option (Fl σ β τ)} (am : Am X lv) (i : Nat) {x : Str} {p' : Pos} (he : OX X e ρ ex ma) (ho : PIp X op ti) (hg : ∀ {a b c}, g a b = some c → ∃ i j l, a = .int i ∧ b = .int j ∧ c = .int l ∧ ∀ H Q, Q (.int l) H → ti (.int i) (.int j) H Q) (h2 : ∀ b, OSs X e pn W (ρ.set i (some (.dat b))) rest eN eB G (mr b)) (hρ : ρ[i]? = some (some (.dat d)) := by rfl) (hx : X.N[i]? = some x := by rfl) (hv : Loc X.env.scope x := by first | exact Or.inl rfl | exact Or.inr rfl) (hu : unp pn [i] = true := by rfl)
    (hf : X.fn x = true ∨ X.env.scope.names.lookup x = some .local := by first | exact .inl rfl | exact .inr rfl | assumption) : OSs X e pn W ρ (.AugAssign (.Name x p') op ex pos :: rest) eN eB G ((ma.bind fun b => g d b).bind mr) := fun r z => by
  obtain ⟨c, h1, z⟩ := ob z
  obtain ⟨b, h3, h1⟩ := ob h1
  obtain ⟨k, j, l, e1, e2, e3, h4⟩ := hg h1
  subst e1 e2 e3
  exact dss_augG i (he _ h3) ho h4 (h2 _ r z) am.nod hρ hx hv (ixlt (by rw [hρ]; rfl)) hu hf
def iMul : PyData → PyData → OP
  | .int i, .int j => if (-18446744073709551616 < i ∧ i < 18446744073709551616) ∨ (-18446744073709551616 < j ∧ j < 18446744073709551616) then some (.int (i * j)) else none
  | _, _ => none
theorem ga_add {a b c : PyData} (h : iAdd a b = some c) : ∃ i j l, a = .int i ∧ b = .int j ∧ c = .int l ∧ ∀ H Q, Q (.int l) H → ipI (fun i j => i + j) (.int i) (.int j) H Q := by
  obtain ⟨i, j, e1, e2, e3⟩ := gp_add h
  exact ⟨i, j, _, e1, e2, e3, fun H Q q => ⟨i, j, rfl, rfl, q⟩⟩
theorem ga_sub {a b c : PyData} (h : pSub a b = some c) : ∃ i j l, a = .int i ∧ b = .int j ∧ c = .int l ∧ ∀ H Q, Q (.int l) H → ipI (fun i j => i - j) (.int i) (.int j) H Q := by
  obtain ⟨i, j, e1, e2, e3⟩ := gp_sub h
  exact ⟨i, j, _, e1, e2, e3, fun H Q q => ⟨i, j, rfl, rfl, q⟩⟩
theorem ga_mul {a b c : PyData} (h : iMul a b = some c) : ∃ i j l, a = .int i ∧ b = .int j ∧ c = .int l ∧ ∀ H Q, Q (.int l) H → ipM (.int i) (.int j) H Q := by
  unfold iMul at h
  split at h
  · obtain ⟨hz, z⟩ := oi h
    cases z
    exact ⟨_, _, _, rfl, rfl, rfl, fun H Q q => ⟨_, _, rfl, rfl, by unfold CMul; exact hz, q⟩⟩
  · cases h
/-- a, b, c = e1, e2, e3 -/
theorem oss_par3 {α1 α2 α3 : Type} (k1 : α1 → Kd) (k2' : α2 → Kd) (k3 : α3 → Kd) {m1 : Option α1} {m2 : Option α2} {m3 : Option α3} {mr : α1 → α2 → α3 → Option (Fl σ β τ)} (am : Am X lv) (i j l : Nat) {x y w : Str} {px py pw pt : Pos} {kt k2 pt2} (ha : OV X e ρ ea k1 m1) (hb : OV X e ρ eb k2' m2) (hc : OV X e ρ ec k3 m3) (h2 : ∀ a b c, OSs X e pn W (((ρ.set i (some (k1 a))).set j (some (k2' b))).set l (some (k3 c))) rest eN eB G (mr a b c))
    (he : starEach [ea, eb, ec] X.env = (false, eval ea X.env) :: starEach [eb, ec] X.env := by rfl) (he2 : starEach [eb, ec] X.env = (false, eval eb X.env) :: starEach [ec] X.env := by rfl) (he3 : starEach [ec] X.env = (false, eval ec X.env) :: starEach [] X.env := by rfl) (hi : X.N[i]? = some x := by rfl) (hj : X.N[j]? = some y := by rfl) (hl : X.N[l]? = some w := by rfl) (hij : i ≠ j := by decide) (hil : i ≠ l := by decide) (hjl : j ≠ l := by decide)
    (hx : X.env.scope.names.lookup x = some .local := by rfl) (hy : X.env.scope.names.lookup y = some .local := by rfl) (hz : X.env.scope.names.lookup w = some .local := by rfl) (hi2 : (ρ[i]?).isSome = true := by rfl) (hj2 : (ρ[j]?).isSome = true := by rfl) (hl2 : (ρ[l]?).isSome = true := by rfl) (hu : unp pn [i, j, l] = true := by rfl)
    (hw : swappedStores [.Tuple [.Name x px, .Name y py, .Name w pw] kt pt] (.Tuple [ea, eb, ec] k2 pt2) X.env = pure (some [x, y, w]) := by rfl)
    (hs : swapsWithSole [.Tuple [.Name x px, .Name y py, .Name w pw] kt pt] (.Tuple [ea, eb, ec] k2 pt2) pos.line X.env = pure false := by rfl) :
    OSs X e pn W ρ (.Assign [.Tuple [.Name x px, .Name y py, .Name w pw] kt pt] (.Tuple [ea, eb, ec] k2 pt2) pos :: rest) eN eB G (m1.bind fun a => m2.bind fun b => m3.bind fun c => mr a b c) := fun r z => by
  obtain ⟨a, h3, z⟩ := ob z
  obtain ⟨b, h4, z⟩ := ob z
  obtain ⟨c, h5, z⟩ := ob z
  have hd : DA X e ρ [ea, eb, ec] ρ [.pu (k1 a), .pu (k2' b), .pu (k3 c)] := da_cons (ha a h3) (da_cons (hb b h4) (da_cons (hc c h5) da_nil he3) he2) he
  refine dss_one (ρ1 := ((ρ.set i (some (k1 a))).set j (some (k2' b))).set l (some (k3 c))) (PS.mono (ps_par3 am.calm am.nod hi hj hl hij hil hjl hx hy hz hd hw hs) fun D σ H ⟨S, stk, cv, pi, o, C⟩ => ⟨S, stk, cv, o, fun vs H1 S1 c1 ok o1 => ?_⟩) (h2 a b c r z)
  match vs, ok, o1 with
  | [u, v, t], _, o1 =>
    have o1 : Os X.K e ((k1 a, u) :: (k2' b, v) :: (k3 c, t) :: (stk ++ ents ρ σ)) H1 S1 := o1
    refine ⟨u, v, t, rfl, ?_⟩
    obtain ⟨o2, c2⟩ := Os.store (L := (k2' b, v) :: (k3 c, t) :: stk) (ixlt hi2) c1 o1
    obtain ⟨o3, c3⟩ := Os.store (L := (k3 c, t) :: stk) (i := j) (by rw [List.length_set]; exact ixlt hj2) c2 o2
    obtain ⟨o4, c4⟩ := Os.store (L := stk) (i := l) (by rw [List.length_set, List.length_set]; exact ixlt hl2) c3 o3
    refine C.nx _ _ _ S1 rfl c4 (pi.keep hu ⟨by rw [List.length_set, List.length_set, List.length_set], fun n hn => ?_⟩) o4
    simp only [List.mem_cons, List.not_mem_nil, or_false, not_or] at hn
    rw [List.getElem?_set_ne (Ne.symm hn.2.2), List.getElem?_set_ne (Ne.symm hn.2.1), List.getElem?_set_ne (Ne.symm hn.1)]
  | [], ok, _ => exact ok.elim
  | [_], ok, _ => exact ok.elim
  | [_, _], ok, _ => exact ok.elim
  | _ :: _ :: _ :: _ :: _, ok, _ => exact ok.elim
end
end
end Ov
set_option Elab.async false
set_option linter.all false
set_option maxRecDepth 100000
set_option maxHeartbeats 1000000
namespace Ov
open PySem PySem.Spec PyProof.Rows L2
/-! ### range(a, b, -1) -/
def rngD (a : Int) (n : Nat) : List Int := (List.range n).map fun i => a + (i : Nat) * -1
theorem rngD_len (a : Int) (n : Nat) : (rngD a n).length = n := by simp [rngD]
theorem rngD_get {a : Int} {n i : Nat} (h : i < n) : (rngD a n)[i]? = some (a + (i : Nat) * -1) := by simp [rngD, h]
theorem wk_rngD {K : PySem.W.Frag} {e : En} {a : Int} {n : Nat} : Wk K e (Itc a (-1) n) [] ((rngD a n).map .int) where
  goes := fun i H S L hi o => by rw [List.length_map, rngD_len] at hi; exact hi
  stops := fun H S L o => by rw [List.length_map, rngD_len]; exact Nat.le_refl _
  yields := fun i H S L x H' d hd o y => by
    obtain ⟨rfl, rfl⟩ := y
    rw [List.getElem?_map] at hd
    by_cases hi : i < n
    · rw [rngD_get hi] at hd
      cases hd
      exact ⟨S, o.push (da_int _ _)⟩
    · rw [List.getElem?_eq_none (by rw [rngD_len]; omega)] at hd
      cases hd
def pRgD : PyData → PyData → Option (List PyData)
  | .int m, .int n => if (-1000000000 ≤ m ∧ m ≤ 1000000000) ∧ (-1000000000 ≤ n ∧ n ≤ 1000000000) ∧ m - n ≤ 16777216 then some ((rngD m (m - n).toNat).map .int) else none
  | _, _ => none
section
variable {X : Cx} {e : En} {ρ : Rho} {ea eb tg : Expr} {pos p p2 p3 : Pos} {lv j : Nat} {ma mb : OP}
theorem oi_rgD (am : Am X lv) (ha : OX X e ρ ea ma) (hb : OX X e ρ eb mb) (hg : Gl X "range" := by rfl) (hs : starEach [ea, eb, .UnaryOp .USub (.Constant (.int 1) j p2) p3] X.env = (false, eval ea X.env) :: starEach [eb, .UnaryOp .USub (.Constant (.int 1) j p2) p3] X.env := by rfl) (hs2 : starEach [eb, .UnaryOp .USub (.Constant (.int 1) j p2) p3] X.env = (false, eval eb X.env) :: starEach [.UnaryOp .USub (.Constant (.int 1) j p2) p3] X.env := by rfl) (hpl : (backTo pos (starEach [eb, .UnaryOp .USub (.Constant (.int 1) j p2) p3] X.env)).any (·.1) = false := by rfl) :
    OI X e ρ tg (.Call (.Name "range" p) [ea, eb, .UnaryOp .USub (.Constant (.int 1) j p2) p3] [] pos) (ma.bind fun a => mb.bind fun b => pRgD a b) := fun ds z => by
  obtain ⟨a, h1, z⟩ := ob z
  obtain ⟨b, h3, h2⟩ := ob z
  have ha := ha a h1
  have hb := hb b h3
  unfold pRgD at h2
  split at h2
  · rename_i m n
    obtain ⟨hz, h2⟩ := oi h2
    cases h2
    have hd : DA X e ρ [ea, eb, .UnaryOp .USub (.Constant (.int 1) j p2) p3] ρ (pus [.int m, .int n, .int (-1)]) := da_cons ha (da_cons hb (da_cons (dx_neg dx_int) da_nil) hs2) hs
    refine PI.mono (pi_range3 hg am.m hd hs hpl) fun σ H R ⟨S, stk, c, o, q⟩ => ⟨S, stk, c, o, fun vs H1 S1 c1 ok o1 => ?_⟩
    obtain ⟨e1, e2⟩ := pushed_pus (ds := [.int m, .int n, .int (-1)]) ok
    have e1 : pushed (pus [.int m, .int n, .int (-1)]) vs = ([Kd.dat (.int m), Kd.dat (.int n), Kd.dat (.int (-1))] : List Kd).zip vs := e1
    rw [e1] at o1
    have hd := Os.dats (ds := [.int m, .int n, .int (-1)]) e2 o1
    simp only [DaL, Da] at hd
    obtain ⟨v, _, rfl, rfl, w, _, rfl, rfl, u, _, rfl, rfl, rfl⟩ := hd
    exact ⟨m, n, -1, _, rfl, RgC.neg (by omega) (by omega) (by omega) (by omega), q _ [] H1 S1 (by rw [List.length_map, rngD_len, sizeLine_eq]; omega) wk_rngD c1 o1.drop.drop.drop⟩
  · cases h2
section
variable {σ β τ : Type} {eN : σ → Rho} {eB : β → Rho} {G : τ → Rho → Prop} {rest : List Stmt} {pn : Pins} {W : L2.WX}
/-- a, b = e1, e2 where the tuple is built (a name that a comprehension sees) -/
theorem oss_parT {α1 α2 : Type} (k1 : α1 → Kd) (k2' : α2 → Kd) {m1 : Option α1} {m2 : Option α2} {mr : α1 → α2 → Option (Fl σ β τ)} (am : Am X lv) (i j : Nat) {x y : Str} {px py pt : Pos} {kt k2 pt2} (ha : OV X e ρ ea k1 m1) (hb : OV X e ρ eb k2' m2) (h2 : ∀ a b, OSs X e pn W ((ρ.set i (some (k1 a))).set j (some (k2' b))) rest eN eB G (mr a b))
    (he : starEach [ea, eb] X.env = (false, eval ea X.env) :: starEach [eb] X.env := by rfl) (he2 : starEach [eb] X.env = (false, eval eb X.env) :: starEach [] X.env := by rfl) (hi : X.N[i]? = some x := by rfl) (hj : X.N[j]? = some y := by rfl)
    (hx : Loc X.env.scope x := by first | exact Or.inl rfl | exact Or.inr rfl) (hy : Loc X.env.scope y := by first | exact Or.inl rfl | exact Or.inr rfl) (hf : X.fn x = true ∨ X.env.scope.names.lookup x = some .local := by first | exact .inl rfl | exact .inr rfl | assumption) (hf2 : X.fn y = true ∨ X.env.scope.names.lookup y = some .local := by first | exact .inl rfl | exact .inr rfl | assumption) (hi2 : (ρ[i]?).isSome = true := by rfl) (hj2 : (ρ[j]?).isSome = true := by rfl) (hu : unp pn [i, j] = true := by rfl)
    (hs1 : (assignEach [.Name x px, .Name y py] X.env).map (·.2) = assign (.Name x px) X.env :: (assignEach [.Name y py] X.env).map (·.2) := by rfl) (hs2 : (assignEach [.Name y py] X.env).map (·.2) = assign (.Name y py) X.env :: (assignEach [] X.env).map (·.2) := by rfl) (hn : (assignEach [.Name x px, .Name y py] X.env).length = 2 := by rfl) (hst : (assignEach [.Name x px, .Name y py] X.env).findIdx? (·.1) = none := by rfl)
    (hw : swappedStores [.Tuple [.Name x px, .Name y py] kt pt] (.Tuple [ea, eb] k2 pt2) X.env = pure none := by rfl)
    (hs : swapsWithSole [.Tuple [.Name x px, .Name y py] kt pt] (.Tuple [ea, eb] k2 pt2) pos.line X.env = pure false := by rfl) (h1 : (assignEach [.Tuple [.Name x px, .Name y py] kt pt] X.env).map (·.2) = [assign (.Tuple [.Name x px, .Name y py] kt pt) X.env] := by rfl) :
    OSs X e pn W ρ (.Assign [.Tuple [.Name x px, .Name y py] kt pt] (.Tuple [ea, eb] k2 pt2) pos :: rest) eN eB G (m1.bind fun a => m2.bind fun b => mr a b) := fun r z => by
  obtain ⟨a, h3, z⟩ := ob z
  obtain ⟨b, h4, z⟩ := ob z
  have hd : DA X e ρ [ea, eb] ρ [.pu (k1 a), .pu (k2' b)] := da_cons (ha a h3) (da_cons (hb b h4) da_nil he2) he
  refine dss_one (ρ1 := (ρ.set i (some (k1 a))).set j (some (k2' b))) (PS.mono (ps_asg (pe_tup hd) (pg_tup am.calm (pgs_cons (pg_name am.nod hi hx hf) (pgs_cons (pg_name am.nod hj hy hf2) pgs_nil hs2) hs1) hn hst) hs hw h1) fun D σ H ⟨S, stk, cv, pi, o, C⟩ => ⟨S, stk, cv, o, fun vs H1 S1 c1 ok o1 => ?_⟩) (h2 a b r z)
  match vs, ok, o1 with
  | [u, v], _, o1 =>
    have o1 : Os X.K e ((k1 a, u) :: (k2' b, v) :: (stk ++ ents ρ σ)) H1 S1 := o1
    refine ⟨by rw [sizeLine_eq]; exact (by decide : 2 ≤ 16777216), fun q hq => ⟨q, [u, v], rfl, .inl (.inl upd_same), rfl, u, [v], rfl, v, [], rfl, rfl, ?_⟩⟩
    have o9 := o1.newS (o := .tup [u, v]) hq
    obtain ⟨o2, c2⟩ := Os.store (L := (k2' b, v) :: stk) (ixlt hi2) c1 o9
    obtain ⟨o3, c3⟩ := Os.store (L := stk) (i := j) (by rw [List.length_set]; exact ixlt hj2) c2 o2
    refine C.nx _ _ _ _ rfl c3 (pi.keep hu ⟨by rw [List.length_set, List.length_set], fun n hn => ?_⟩) o3
    simp only [List.mem_cons, List.not_mem_nil, or_false, not_or] at hn
    rw [List.getElem?_set_ne (Ne.symm hn.2), List.getElem?_set_ne (Ne.symm hn.1)]
  | [], ok, _ => exact ok.elim
  | [_], ok, _ => exact ok.elim
  | _ :: _ :: _ :: _, ok, _ => exact ok.elim
end
end
end Ov
set_option Elab.async false
set_option linter.all false
set_option maxRecDepth 100000
set_option maxHeartbeats 1000000
namespace Ov
open PySem PySem.Spec PyProof.Rows L2
/-! ### instances: one field taken out and put back -/
section
variable {K : PySem.W.Frag} {e : En} {L : En2} {H S : Hp}
theorem hol_open : ∀ {ks : List Kd} {vs : List V} {f : List Addr} {j : Nat} {k : Kd}, HoL K H S ks vs f → ks[j]? = some k → ∃ v f1 f2, vs[j]? = some v ∧ f.Perm (f1 ++ f2) ∧ Ho K H S k v f1 ∧ HoL K H S (ks.set j (.pin v .any)) vs f2
  | [], _, _, _, _, _, h => by simp at h
  | k0 :: ks, vs, f, 0, k, h, hj => by
    simp only [HoL] at h
    obtain ⟨v, vs', f1, f2, rfl, rfl, h1, h2⟩ := h
    simp at hj
    subst hj
    refine ⟨v, f1, f2, rfl, .refl _, h1, ?_⟩
    have := HoL.cons (k := .pin v .any) (v := v) (f1 := []) (by simp only [Ho]; exact ⟨trivial, trivial⟩) h2
    exact this
  | k0 :: ks, vs, f, j + 1, k, h, hj => by
    simp only [HoL] at h
    obtain ⟨v, vs', f1, f2, rfl, rfl, h1, h2⟩ := h
    obtain ⟨u, g1, g2, e1, e2, e3, e4⟩ := hol_open h2 (by simpa using hj)
    refine ⟨u, g1, f1 ++ g2, by simpa using e1, ?_, e3, ?_⟩
    · refine (e2.append_left f1).trans ?_
      rw [← List.append_assoc, ← List.append_assoc]
      exact List.perm_append_comm.append_right _
    · rw [List.set_cons_succ]
      exact HoL.cons h1 e4
theorem hol_close : ∀ {ks : List Kd} {vs : List V} {f1 f2 : List Addr} {j : Nat} {k' : Kd} {v : V}, j < ks.length → Ho K H S k' v f1 → HoL K H S (ks.set j (.pin v .any)) vs f2 → ∃ f, f.Perm (f1 ++ f2) ∧ HoL K H S (ks.set j k') vs f
  | [], _, _, _, _, _, _, hj, _, _ => by simp at hj
  | k0 :: ks, vs, f1, f2, 0, k', v, hj, h, h2 => by
    simp only [List.set_cons_zero, HoL, Ho] at h2
    obtain ⟨u, vs', g1, g2, rfl, rfl, ⟨rfl, rfl⟩, h3⟩ := h2
    exact ⟨f1 ++ g2, .refl _, HoL.cons h h3⟩
  | k0 :: ks, vs, f1, f2, j + 1, k', v, hj, h, h2 => by
    simp only [List.set_cons_succ, HoL] at h2
    obtain ⟨u, vs', g1, g2, rfl, rfl, h3, h4⟩ := h2
    obtain ⟨f, p, h5⟩ := hol_close (by simpa using hj) h h4
    refine ⟨g1 ++ f, ?_, by rw [List.set_cons_succ]; exact HoL.cons h3 h5⟩
    refine (p.append_left g1).trans ?_
    rw [← List.append_assoc, ← List.append_assoc]
    exact List.perm_append_comm.append_right _
theorem Os.own_perm {M : En2} {f g : List Addr} (x : Os K e L H S) (hf : SL K H S L f) (hg : SL K H S M g) (p : f.Perm g) : Os K e M H S := by
  obtain ⟨f', h, nd, hh⟩ := x.own
  obtain rfl := h.fp hf
  exact ⟨x.same, x.tups, x.old, x.oldS, x.grow, g, hg, p.nodup_iff.mp nd, fun b hb => hh b (p.mem_iff.mpr hb)⟩
/-- an instance, its j-th field taken out -/
theorem Os.openF {C : Addr} {ns : List Str} {ks : List Kd} {j : Nat} {k : Kd} {v : V} (o : Os K e ((.ob C ns ks, v) :: L) H S) (hj : ks[j]? = some k) : ∃ x dx vs u, v = .ref x ∧ H x = some (.ins C dx (ns.zip vs)) ∧ ns.length = vs.length ∧ vs[j]? = some u ∧ Os K e ((k, u) :: (.ob C ns (ks.set j (.pin u .any)), v) :: L) H S := by
  obtain ⟨f, h, nd, hf⟩ := o.own
  have h0 := h
  cases h with
  | cons h1 h2 =>
    rename_i f1 f2
    simp only [Ho] at h1
    obtain ⟨x, dx, vs, f', rfl, rfl, hx, hd, hl, hs⟩ := h1
    obtain ⟨u, g1, g2, e1, e2, e3, e4⟩ := hol_open hs hj
    refine ⟨x, dx, vs, u, rfl, hx, hl, e1, o.own_perm h0 (.cons e3 (.cons (f1 := x :: dx :: g2) ?_ h2)) ?_⟩
    · simp only [Ho]
      exact ⟨x, dx, vs, g2, rfl, rfl, hx, hd, hl, e4⟩
    · rw [← List.append_assoc]
      refine List.Perm.append_right _ ?_
      refine ((e2.cons dx).cons x).trans ?_
      have p1 : (x :: dx :: (g1 ++ g2)).Perm (g1 ++ (x :: dx :: g2)) := by
        have : (x :: dx :: (g1 ++ g2)) = [x, dx] ++ (g1 ++ g2) := rfl
        rw [this, ← List.append_assoc]
        have : (g1 ++ (x :: dx :: g2)) = (g1 ++ [x, dx]) ++ g2 := by simp
        rw [this]
        exact List.perm_append_comm.append_right _
      exact p1
/-- .. put back, whatever it is now -/
theorem Os.closeF {C : Addr} {ns : List Str} {ks : List Kd} {j : Nat} {k' : Kd} {v u : V} (hj : j < ks.length) (o : Os K e ((k', u) :: (.ob C ns (ks.set j (.pin u .any)), v) :: L) H S) : Os K e ((.ob C ns (ks.set j k'), v) :: L) H S := by
  obtain ⟨f, h, nd, hf⟩ := o.own
  have h0 := h
  cases h with
  | cons h1 h2 =>
    cases h2 with
    | cons h3 h4 =>
      simp only [Ho] at h3
      obtain ⟨x, dx, vs, g2, rfl, rfl, hx, hd, hl, hs⟩ := h3
      obtain ⟨g, p, hs'⟩ := hol_close hj h1 hs
      refine o.own_perm h0 (.cons (f1 := x :: dx :: g) ?_ h4) ?_
      · simp only [Ho]
        exact ⟨x, dx, vs, g, rfl, rfl, hx, hd, hl, hs'⟩
      · rename_i f1 f2
        rw [← List.append_assoc]
        refine List.Perm.append_right _ ?_
        refine List.Perm.trans ?_ ((p.symm.cons dx).cons x)
        have : (f1 ++ (x :: dx :: g2)) = (f1 ++ [x, dx]) ++ g2 := by simp
        rw [this]
        have : (x :: dx :: (f1 ++ g2)) = [x, dx] ++ (f1 ++ g2) := rfl
        rw [this, ← List.append_assoc]
        exact List.perm_append_comm.append_right _
/-- an instance's field stored: the entry at the head goes there (the field was there) -/
theorem lookup_zip : ∀ {ns : List Str} {f : Str} {j : Nat} {vs : List V}, ns.findIdx? (· == f) = some j → ns.length = vs.length → (ns.zip vs).lookup f = vs[j]?
  | [], _, _, _, h, _ => by simp at h
  | n :: ns, f, j, [], _, hl => by simp at hl
  | n :: ns, f, j, v :: vs, h, hl => by
    rw [List.zip_cons_cons, List.lookup_cons]
    rw [List.findIdx?_cons] at h
    by_cases e1 : n = f
    · subst e1
      simp at h
      subst h
      simp
    · have e2 : (f == n) = false := by simp; exact fun q => e1 q.symm
      have e3 : (n == f) = false := by simp; exact e1
      rw [e3] at h
      simp at h
      obtain ⟨i, h1, rfl⟩ := h
      rw [e2]
      have := lookup_zip (ns := ns) (vs := vs) (f := f) (j := i) (by simpa using h1) (by simpa using hl)
      simpa using this
theorem lookup_none : ∀ {ns : List Str} {f : Str} {vs : List V}, f ∉ ns → (ns.zip vs).lookup f = none
  | [], _, _, _ => by simp
  | n :: ns, f, [], _ => by simp
  | n :: ns, f, v :: vs, h => by
    rw [List.zip_cons_cons, List.lookup_cons]
    have e2 : (f == n) = false := by
      simp
      exact fun q => h (by rw [q]; exact List.mem_cons_self)
    rw [e2]
    exact lookup_none fun q => h (List.mem_cons_of_mem _ q)
theorem putF_old : ∀ {ns : List Str} {f : Str} {j : Nat} {vs : List V} {y : V}, ns.findIdx? (· == f) = some j → ns.length = vs.length → putF f y (ns.zip vs) = ns.zip (vs.set j y)
  | [], _, _, _, _, h, _ => by simp at h
  | n :: ns, f, j, [], _, _, hl => by simp at hl
  | n :: ns, f, j, v :: vs, y, h, hl => by
    rw [List.zip_cons_cons]
    rw [List.findIdx?_cons] at h
    unfold putF
    by_cases e1 : n = f
    · subst e1
      simp at h
      subst h
      rw [if_pos rfl]
      rfl
    · have e3 : (n == f) = false := by simp; exact e1
      rw [e3] at h
      simp at h
      obtain ⟨i, h1, rfl⟩ := h
      rw [if_neg e1, putF_old (ns := ns) (vs := vs) (f := f) (j := i) (by simpa using h1) (by simpa using hl)]
      rfl
theorem putF_new : ∀ {ns : List Str} {f : Str} {vs : List V} {y : V}, f ∉ ns → ns.length = vs.length → putF f y (ns.zip vs) = (ns ++ [f]).zip (vs ++ [y])
  | [], f, [], y, _, _ => rfl
  | [], _, _ :: _, _, _, hl => by simp at hl
  | _ :: _, _, [], _, _, hl => by simp at hl
  | n :: ns, f, v :: vs, y, h, hl => by
    rw [List.zip_cons_cons]
    unfold putF
    rw [if_neg fun q => h (by rw [q]; exact List.mem_cons_self), putF_new (fun q => h (List.mem_cons_of_mem _ q)) (by simpa using hl)]
    rfl
theorem hol_app : ∀ {ks : List Kd} {vs : List V} {f g : List Addr} {k : Kd} {v : V}, HoL K H S ks vs f → Ho K H S k v g → HoL K H S (ks ++ [k]) (vs ++ [v]) (f ++ g)
  | [], vs, f, g, k, v, h, h1 => by
    simp only [HoL] at h
    obtain ⟨rfl, rfl⟩ := h
    have := HoL.cons h1 (HoL.nil (K := K) (H := H) (S := S))
    simpa using this
  | k0 :: ks, vs, f, g, k, v, h, h1 => by
    simp only [HoL] at h
    obtain ⟨u, vs', f1, f2, rfl, rfl, h2, h3⟩ := h
    rw [List.append_assoc]
    exact HoL.cons h2 (hol_app h3 h1)
/-- a new field -/
theorem Os.newF {C : Addr} {ns : List Str} {ks : List Kd} {k : Kd} {v y : V} {f : Str} (hn : f ∉ ns) (o : Os K e ((k, y) :: (.ob C ns ks, v) :: L) H S) : ∃ x dx vs, v = .ref x ∧ H x = some (.ins C dx (ns.zip vs)) ∧ ns.length = vs.length ∧ Os K e ((.ob C (ns ++ [f]) (ks ++ [k]), v) :: L) (upd H x (.ins C dx (putF f y (ns.zip vs)))) S := by
  obtain ⟨g, h, nd, hg⟩ := o.own
  have h0 := h
  cases h with
  | cons h1 h2 =>
    rename_i f1 f2
    cases h2 with
    | cons h3 h4 =>
      rename_i f3 f4
      simp only [Ho] at h3
      obtain ⟨x, dx, vs, f', rfl, rfl, hx, hd, hl, hs⟩ := h3
      -- an entry that owns all of it
      have big : Os K e ((.ob C (ns ++ [f]) (ks ++ [k]), .ref x) :: L) (upd H x (.ins C dx (putF f y (ns.zip vs)))) S := by
        have nd2 := nd
        have xf1 : x ∉ f1 := fun z => (List.nodup_append.mp nd).2.2 x z x (by simp) rfl
        have xr : x ∉ dx :: (f' ++ f4) := by
          have := (List.nodup_append.mp nd).2.1
          exact (List.nodup_cons.mp (by simpa using this)).1
        have mv : ∀ b ∈ f1, upd H x (.ins C dx (putF f y (ns.zip vs))) b = H b := fun b hb => upd_ne fun z => xf1 (z ▸ hb)
        have mv2 : ∀ b ∈ dx :: (f' ++ f4), upd H x (.ins C dx (putF f y (ns.zip vs))) b = H b := fun b hb => upd_ne fun z => xr (z ▸ hb)
        obtain ⟨sx, hxn, wx⟩ := hg x (by simp)
        refine ⟨fun b u q => ?_, fun b xs q => ?_, fun b u q => ?_, o.oldS, o.grow, (x :: dx :: (f' ++ f1)) ++ f4, .cons (f1 := x :: dx :: (f' ++ f1)) ?_ (h4.mono (Same.refl S) fun b hb => mv2 b (by simp [hb])), ?_, fun b hb => ?_⟩
        · rw [upd_ne (ne_of_none q sx)]
          exact o.same _ _ q
        · by_cases hb : b = x
          · subst hb
            rw [upd_same] at q
            cases q
          · rw [upd_ne hb] at q
            exact o.tups _ _ q
        · rw [upd_ne (ne_of_none q wx)]
          exact o.old b u q
        · simp only [Ho]
          refine ⟨x, dx, vs ++ [y], f' ++ f1, rfl, rfl, ?_, ?_, by simp [hl], hol_app (HoL.mono (Same.refl S) _ _ _ (fun b hb => mv2 b (by simp [hb])) hs) (Ho.mono (Same.refl S) _ _ _ mv h1)⟩
          · rw [upd_same, putF_new hn hl]
          · rw [mv2 dx (by simp)]
            exact hd
        · refine (List.Perm.nodup_iff ?_).mp nd
          have : (x :: dx :: (f' ++ f1)) ++ f4 = [x, dx] ++ f' ++ (f1 ++ f4) := by simp
          rw [this]
          have : f1 ++ ((x :: dx :: f') ++ f4) = f1 ++ ([x, dx] ++ f') ++ f4 := by simp
          rw [this]
          have : [x, dx] ++ f' ++ (f1 ++ f4) = ([x, dx] ++ f') ++ f1 ++ f4 := by simp
          rw [this]
          exact List.perm_append_comm.append_right _
        · have hb' : b ∈ f1 ++ ((x :: dx :: f') ++ f4) := by
            simp only [List.mem_append, List.mem_cons] at hb ⊢
            rcases hb with (h | h | h | h) | h <;> simp [h]
          obtain ⟨a1, a2, a3⟩ := hg b hb'
          refine ⟨a1, ?_, a3⟩
          by_cases e1 : b = x
          · subst e1
            rw [upd_same]
            intro z; cases z
          · rw [upd_ne e1]
            exact a2
      exact ⟨x, dx, vs, rfl, hx, hl, big⟩
end
end Ov
set_option Elab.async false
set_option linter.all false
set_option maxRecDepth 100000
set_option maxHeartbeats 1000000
namespace Ov
open PySem PySem.Spec PyProof.Rows L2
section
variable {K : PySem.W.Frag} {e : En} {L : En2} {H S : Hp}
theorem hol_put : ∀ {ks : List Kd} {vs : List V} {f1 f2 : List Addr} {j : Nat} {k' : Kd} {u y : V}, j < ks.length → Ho K H S k' y f1 → HoL K H S (ks.set j (.pin u .any)) vs f2 → ∃ f, f.Perm (f1 ++ f2) ∧ HoL K H S (ks.set j k') (vs.set j y) f
  | [], _, _, _, _, _, _, _, hj, _, _ => by simp at hj
  | k0 :: ks, vs, f1, f2, 0, k', u, y, hj, h, h2 => by
    simp only [List.set_cons_zero, HoL, Ho] at h2
    obtain ⟨w, vs', g1, g2, rfl, rfl, ⟨rfl, rfl⟩, h3⟩ := h2
    exact ⟨f1 ++ g2, .refl _, HoL.cons h h3⟩
  | k0 :: ks, vs, f1, f2, j + 1, k', u, y, hj, h, h2 => by
    simp only [List.set_cons_succ, HoL] at h2
    obtain ⟨w, vs', g1, g2, rfl, rfl, h3, h4⟩ := h2
    obtain ⟨f, p, h5⟩ := hol_put (by simpa using hj) h h4
    refine ⟨g1 ++ f, ?_, by rw [List.set_cons_succ, List.set_cons_succ]; exact HoL.cons h3 h5⟩
    refine (p.append_left g1).trans ?_
    rw [← List.append_assoc, ← List.append_assoc]
    exact List.perm_append_comm.append_right _
/-- a field stored again -/
theorem Os.setF {C : Addr} {ns : List Str} {ks : List Kd} {k k0 : Kd} {v y : V} {f : Str} {j : Nat} (hn : ns.findIdx? (· == f) = some j) (hj : ks[j]? = some k0) (o : Os K e ((k, y) :: (.ob C ns ks, v) :: L) H S) : ∃ x dx vs, v = .ref x ∧ H x = some (.ins C dx (ns.zip vs)) ∧ ns.length = vs.length ∧ Os K e ((.ob C ns (ks.set j k), v) :: L) (upd H x (.ins C dx (putF f y (ns.zip vs)))) S := by
  have o1 := (o.perm (.swap _ _ _)).openF hj
  obtain ⟨x, dx, vs, u, rfl, hx, hl, hu, o2⟩ := o1
  have o3 : Os K e ((k, y) :: (.ob C ns (ks.set j (.pin u .any)), .ref x) :: L) H S := (o2.drop.perm (.swap _ _ _))
  refine ⟨x, dx, vs, rfl, hx, hl, ?_⟩
  obtain ⟨g, h, nd, hg⟩ := o3.own
  cases h with
  | cons h1 h2 =>
    rename_i f1 f2
    cases h2 with
    | cons h3 h4 =>
      rename_i f3 f4
      simp only [Ho] at h3
      obtain ⟨x', dx', vs', f', e1, rfl, hx', hd, hl', hs⟩ := h3
      cases e1
      rw [hx] at hx'
      have q := Option.some.inj hx'
      injection q with q1 q2 q3
      subst q2
      obtain rfl := zip_inj hl hl' q3
      have xf1 : x ∉ f1 := fun z => (List.nodup_append.mp nd).2.2 x z x (by simp) rfl
      have xr : x ∉ dx :: (f' ++ f4) := by
        have := (List.nodup_append.mp nd).2.1
        exact (List.nodup_cons.mp (by simpa using this)).1
      have mv : ∀ b ∈ f1, upd H x (.ins C dx (putF f y (ns.zip vs))) b = H b := fun b hb => upd_ne fun z => xf1 (z ▸ hb)
      have mv2 : ∀ b ∈ dx :: (f' ++ f4), upd H x (.ins C dx (putF f y (ns.zip vs))) b = H b := fun b hb => upd_ne fun z => xr (z ▸ hb)
      obtain ⟨sx, hxn, wx⟩ := hg x (by simp)
      have hjl : j < ks.length := (List.getElem?_eq_some_iff.mp hj).1
      obtain ⟨g2, p2, hs2⟩ := hol_put hjl (Ho.mono (Same.refl S) _ _ _ mv h1) (HoL.mono (Same.refl S) _ _ _ (fun b hb => mv2 b (by simp [hb])) hs)
      refine ⟨fun b u q => ?_, fun b xs q => ?_, fun b u q => ?_, o3.oldS, o3.grow, (x :: dx :: g2) ++ f4, .cons (f1 := x :: dx :: g2) ?_ (h4.mono (Same.refl S) fun b hb => mv2 b (by simp [hb])), ?_, fun b hb => ?_⟩
      · rw [upd_ne (ne_of_none q sx)]
        exact o3.same _ _ q
      · by_cases hb : b = x
        · subst hb
          rw [upd_same] at q
          cases q
        · rw [upd_ne hb] at q
          exact o3.tups _ _ q
      · rw [upd_ne (ne_of_none q wx)]
        exact o3.old b u q
      · simp only [Ho]
        refine ⟨x, dx, vs.set j y, g2, rfl, rfl, ?_, ?_, by rw [List.length_set]; exact hl, hs2⟩
        · rw [upd_same, putF_old hn hl]
        · rw [mv2 dx (by simp)]
          exact hd
      · refine (List.Perm.nodup_iff ?_).mp nd
        have pp : ((x :: dx :: g2) ++ f4).Perm ((x :: dx :: (f1 ++ f')) ++ f4) := ((p2.cons dx).cons x).append_right _
        refine List.Perm.trans ?_ pp.symm
        have a1 : (x :: dx :: (f1 ++ f')) ++ f4 = [x, dx] ++ f1 ++ f' ++ f4 := by simp
        have a2 : f1 ++ ((x :: dx :: f') ++ f4) = f1 ++ [x, dx] ++ f' ++ f4 := by simp
        rw [a1, a2]
        exact (List.perm_append_comm.append_right _).append_right _
      · have hb' : b ∈ f1 ++ ((x :: dx :: f') ++ f4) := by
          have : b ∈ (x :: dx :: (f1 ++ f')) ++ f4 := by
            simp only [List.mem_append, List.mem_cons] at hb ⊢
            rcases hb with (h | h | h) | h
            · simp [h]
            · simp [h]
            · have := p2.mem_iff.mp h
              simp only [List.mem_append] at this
              rcases this with h | h <;> simp [h]
            · simp [h]
          simp only [List.mem_append, List.mem_cons] at this ⊢
          rcases this with (h | h | h | h) | h <;> simp [h]
        obtain ⟨a1, a2, a3⟩ := hg b hb'
        refine ⟨a1, ?_, a3⟩
        by_cases e1 : b = x
        · subst e1
          rw [upd_same]
          intro z; cases z
        · rw [upd_ne e1]
          exact a2
end
/-! ### rules -/
section
variable {X : Cx} {e : En} {ρ ρ1 ρ2 : Rho} {ea eb ex : Expr} {es : List Expr} {pos p apos xp : Pos} {k : Kd} {C : Addr} {ns : List Str} {ks : List Kd} {x f : Str}
abbrev FIx (ns : List Str) (f : Str) (j : Nat) : Prop := ns.findIdx? (· == f) = some j
/-- self.f, data -/
theorem dx_fld (i j : Nat) {d : PyData} (c : Cls X.K C) (n : NoAttr X.K C f) (hρ : ρ[i]? = some (some (.ob C ns ks)) := by rfl) (hf : FIx ns f j := by rfl) (hk : ks[j]? = some (.dat d) := by rfl) (hN : X.N[i]? = some x := by rfl) (hv : Vis X.env.scope x := by first | exact Or.inl rfl | exact Or.inr (Or.inl rfl) | exact Or.inr (Or.inr rfl)) (hd : (x == ("__debug__" : Str)) = false := by decide) (hcd : (x == ("__classdict__" : Str)) = false := by decide)
    (hb : attributeBase (.Name x xp) f X.env (eval (.Name x xp) X.env) = eval (.Name x xp) X.env := by rfl) : DX X e ρ (.Attribute (.Name x xp) f pos) ρ (.dat d) :=
  PE.mono (pe_fld (pe_var hN hv hd hcd) hb) fun σ H Q ⟨S, stk, cv, o, q⟩ => by
    obtain ⟨v, e1, o1, back⟩ := o.focus cv hρ
    obtain ⟨a, dx, vs, u, rfl, hx, hl, hu, o2⟩ := o1.openF hk
    exact ⟨.ref a, e1, a, C, dx, _, u, rfl, hx, c, n, (lookup_zip hf hl).trans hu, q u H S cv (o.push o2.dat)⟩
/-- a list that is owned, at a place that may be told -/
def MlK (κ : Kd) (ds : List PyData) : Prop := κ = .ml ds ∨ ∃ u, κ = .pin u (.ml ds)
theorem MlK.ml {ds : List PyData} : MlK (.ml ds) ds := .inl rfl
theorem MlK.pin {ds : List PyData} {u : V} : MlK (.pin u (.ml ds)) ds := .inr ⟨u, rfl⟩
section
variable {K : PySem.W.Frag} {L : En2} {H S : Hp}
theorem Os.unpin {κ : Kd} {ds : List PyData} {v : V} (h : MlK κ ds) (o : Os K e ((κ, v) :: L) H S) : Os K e ((.ml ds, v) :: L) H S := by
  rcases h with rfl | ⟨u, rfl⟩
  · exact o
  · refine o.head fun f hf => ?_
    simp only [Ho] at hf ⊢
    exact hf.2
theorem Os.topin {k : Kd} {v : V} (o : Os K e ((k, v) :: L) H S) : Os K e ((.pin v k, v) :: L) H S := o.head fun f hf => by
  simp only [Ho]
  exact ⟨trivial, hf⟩
theorem Os.pinned {k : Kd} {u v : V} (o : Os K e ((.pin u k, v) :: L) H S) : v = u ∧ Os K e ((k, v) :: L) H S := by
  obtain ⟨f, hf⟩ := o.ho
  simp only [Ho] at hf
  exact ⟨hf.1, o.head fun f hf => by simp only [Ho] at hf; exact hf.2⟩
end
/-- self.f as the value that the rules of lists want -/
theorem pe_fldM (i : Nat) (hN : X.N[i]? = some x) (hv : Vis X.env.scope x) (hd : (x == ("__debug__" : Str)) = false) (hcd : (x == ("__classdict__" : Str)) = false) (hb : attributeBase (.Name x xp) f X.env (eval (.Name x xp) X.env) = eval (.Name x xp) X.env) : PE X (.Attribute (.Name x xp) f pos) (tFld X.K (tVar i) f) := pe_fld (pe_var hN hv hd hcd) hb
/-- the slot's instance, its j-th field's place told -/
theorem pin_slot {σ : L2.St} {H S : Hp} {stk : En2} {i j : Nat} {κ : Kd} {ds : List PyData} (cv : Cov ρ σ) (o : Os X.K e (stk ++ ents ρ σ) H S) (hρ : ρ[i]? = some (some (.ob C ns ks))) (hk : ks[j]? = some κ) (hm : MlK κ ds) : ∃ a dx vs u, σ[i]? = some (some (.ref a)) ∧ H a = some (.ins C dx (ns.zip vs)) ∧ ns.length = vs.length ∧ vs[j]? = some u ∧ Cov (ρ.set i (some (.ob C ns (ks.set j (.pin u (.ml ds)))))) σ ∧ Os X.K e (stk ++ ents (ρ.set i (some (.ob C ns (ks.set j (.pin u (.ml ds)))))) σ) H S ∧ ∀ u0, κ = .pin u0 (.ml ds) → u = u0 := by
  obtain ⟨v, e1, o1, back⟩ := o.focus cv hρ
  obtain ⟨a, dx, vs, u, rfl, hx, hl, hu, o2⟩ := o1.openF hk
  obtain ⟨o3, c3⟩ := back _ stk e H S (Os.closeF (List.getElem?_eq_some_iff.mp hk).1 (Os.topin (Os.unpin hm o2)))
  refine ⟨a, dx, vs, u, e1, hx, hl, hu, c3, o3, fun u0 hu0 => ?_⟩
  subst hu0
  exact (Os.pinned o2).1
theorem pin_at {σ : L2.St} {H S : Hp} {stk : En2} {i j : Nat} {κ : Kd} {ds : List PyData} {u : V} (cv : Cov (ρ.set i (some (.ob C ns (ks.set j (.pin u (.ml ds)))))) σ) (o : Os X.K e (stk ++ ents (ρ.set i (some (.ob C ns (ks.set j (.pin u (.ml ds)))))) σ) H S) (hρ : ρ[i]? = some (some (.ob C ns ks))) (hk : ks[j]? = some κ) :
    ∃ v L, Os X.K e ((.ml ds, u) :: (stk ++ L)) H S ∧ ∀ (k' : Kd) (stk' : En2) (H' S' : Hp), Os X.K e ((k', u) :: (stk' ++ L)) H' S' → Os X.K e (stk' ++ ents (ρ.set i (some (.ob C ns (ks.set j k')))) σ) H' S' ∧ Cov (ρ.set i (some (.ob C ns (ks.set j k')))) σ ∧ σ[i]? = some (some v) := by
  have hi := (List.getElem?_eq_some_iff.mp hρ).1
  have hjl := (List.getElem?_eq_some_iff.mp hk).1
  have hρ2 : (ρ.set i (some (.ob C ns (ks.set j (.pin u (.ml ds))))))[i]? = some (some (.ob C ns (ks.set j (.pin u (.ml ds))))) := List.getElem?_set_self hi
  obtain ⟨v, e1, o1, back⟩ := o.focus cv hρ2
  obtain ⟨a, dx, vs, u', rfl, hx, hl, hu, o2⟩ := o1.openF (j := j) (List.getElem?_set_self hjl)
  obtain ⟨rfl, o3⟩ := Os.pinned o2
  simp only [List.set_set] at o3 back
  refine ⟨.ref a, (.ob C ns (ks.set j (.pin u' .any)), .ref a) :: ents (ρ.set i none) σ, o3.perm (List.Perm.cons _ List.perm_middle.symm), fun k' stk' H' S' o4 => ?_⟩
  have o5 := Os.closeF hjl (o4.perm (List.Perm.cons _ List.perm_middle))
  obtain ⟨o6, c6⟩ := back _ stk' e H' S' o5
  exact ⟨o6, c6, e1⟩
theorem cov_set {σ : L2.St} {i : Nat} {k0 k1 : Kd} (cv : Cov (ρ.set i (some k0)) σ) (hi : ρ[i]? = some (some k1)) : Cov ρ σ := by
  have g : ∀ {ρ : Rho} {σ : L2.St} {i : Nat}, Cov (ρ.set i (some k0)) σ → ρ[i]? = some (some k1) → Cov ρ σ := by
    intro ρ
    induction ρ with
    | nil => intro σ i _ h; simp at h
    | cons r ρ ih =>
      intro σ i c h
      cases i with
      | zero =>
        simp at h
        subst h
        cases σ with
        | nil => simp [Cov] at c
        | cons s σ => cases s with | none => simp [Cov] at c | some v => simpa [Cov] using c
      | succ i =>
        rw [List.set_cons_succ] at c
        cases σ with
        | nil => cases r <;> simp [Cov] at c
        | cons s σ =>
          cases r with
          | none => simp only [Cov] at c ⊢; exact ih c (by simpa using h)
          | some k =>
            cases s with
            | none => simp [Cov] at c
            | some v => simp only [Cov] at c ⊢; exact ih c (by simpa using h)
  exact g cv hi
theorem set_same {α : Type} {l : List α} {i : Nat} {a : α} (h : l[i]? = some a) : l.set i a = l := by
  apply List.ext_getElem?
  intro m
  by_cases hm : i = m
  · subst hm
    rw [List.getElem?_set_self (List.getElem?_eq_some_iff.mp h).1, h]
  · rw [List.getElem?_set_ne hm]
/-- behind a reading the slot is as it was -/
theorem slot_back {σ : L2.St} {H S : Hp} {stk L : En2} {i j : Nat} {κ k : Kd} {ds : List PyData} {u v : V} (hρ : ρ[i]? = some (some (.ob C ns ks))) (hk : ks[j]? = some κ) (hm : MlK κ ds) (o : Os X.K e ((k, v) :: (.ml ds, u) :: (stk ++ L)) H S) (hu0 : ∀ u0, κ = .pin u0 (.ml ds) → u = u0)
    (back : ∀ (k' : Kd) (stk' : En2) (H' S' : Hp), Os X.K e ((k', u) :: (stk' ++ L)) H' S' → Os X.K e (stk' ++ ents (ρ.set i (some (.ob C ns (ks.set j k')))) σ) H' S' ∧ Cov (ρ.set i (some (.ob C ns (ks.set j k')))) σ) : Os X.K e ((k, v) :: (stk ++ ents ρ σ)) H S ∧ Cov ρ σ := by
  have o1 : Os X.K e ((κ, u) :: ((k, v) :: stk ++ L)) H S := by
    have o2 := o.perm (.swap _ _ _)
    rcases hm with rfl | ⟨u1, rfl⟩
    · exact o2
    · rw [← hu0 u1 rfl]
      exact Os.topin o2
  have q := back κ ((k, v) :: stk) H S o1
  rw [set_same hk, set_same hρ] at q
  exact q
abbrev pinR (ρ : Rho) (i : Nat) (C : Addr) (ns : List Str) (ks : List Kd) (j : Nat) (ds : List PyData) (u : V) : Rho := ρ.set i (some (.ob C ns (ks.set j (.pin u (.ml ds)))))
/-- self.f[e], self.f an owned list: the slot's list becomes one whose place is not told -/
theorem dx_fldIx (i j : Nat) {κ : Kd} {ds : List PyData} {n : Int} {d : PyData} (c : Cls X.K C) (na : NoAttr X.K C f) (hm : MlK κ ds) (hidx : ∀ u, DX X e (pinR ρ i C ns ks j ds u) eb (pinR ρ i C ns ks j ds u) (.dat (.int n))) (h : atI ds n = some d) (hρ : ρ[i]? = some (some (.ob C ns ks)) := by rfl) (hf : FIx ns f j := by rfl) (hk : ks[j]? = some κ := by rfl) (hN : X.N[i]? = some x := by rfl) (hv : Vis X.env.scope x := by first | exact Or.inl rfl | exact Or.inr (Or.inl rfl) | exact Or.inr (Or.inr rfl)) (hd : (x == ("__debug__" : Str)) = false := by decide) (hcd : (x == ("__classdict__" : Str)) = false := by decide)
    (hb : attributeBase (.Name x xp) f X.env (eval (.Name x xp) X.env) = eval (.Name x xp) X.env := by rfl) (hs : PlainIx eb := by exact fun _ _ => rfl) : DX X e ρ (.Subscript (.Attribute (.Name x xp) f apos) eb pos) ρ (.dat d) := by
  refine ⟨fun pins s σ H Q I ⟨S, stk, cv, o, q⟩ => ?_⟩
  obtain ⟨a, dx, vs, u, e1, hx, hl, hu, c3, o3, hu0⟩ := pin_slot cv o hρ hk hm
  refine (pe_ix ix_list (pe_fldM i hN hv hd hcd hb) (hidx u) hs).run pins s σ H Q I ⟨.ref a, e1, a, C, dx, _, u, rfl, hx, c, na, (lookup_zip hf hl).trans hu, S, stk, c3, o3, fun y H1 S1 c1 o4 => ?_⟩
  have hy := o4.dat
  simp only [Da] at hy
  obtain ⟨v, L, o5, back⟩ := pin_at c1 o4.drop hρ hk
  obtain ⟨p, xs, rfl, hp, hd⟩ := ml_at o5
  obtain ⟨w, e3, hw⟩ := hd.atI h
  refine ⟨p, xs, n, w, rfl, hy, SqL.of hp, e3, ?_⟩
  -- the slot as it was
  obtain ⟨o7, c7⟩ := slot_back hρ hk hm (o5.push hw) hu0 fun k' stk' H' S' o => (back k' stk' H' S' o).imp id And.left
  exact q w H1 S1 c7 o7
/-- len(self.f) -/
theorem dx_fldLen (i j : Nat) {κ : Kd} {ds : List PyData} (c : Cls X.K C) (na : NoAttr X.K C f) (hm : MlK κ ds) (hml : X.mg "len" = none) (hρ : ρ[i]? = some (some (.ob C ns ks)) := by rfl) (hf : FIx ns f j := by rfl) (hk : ks[j]? = some κ := by rfl) (hN : X.N[i]? = some x := by rfl) (hv : Vis X.env.scope x := by first | exact Or.inl rfl | exact Or.inr (Or.inl rfl) | exact Or.inr (Or.inr rfl)) (hd : (x == ("__debug__" : Str)) = false := by decide) (hcd : (x == ("__classdict__" : Str)) = false := by decide)
    (hb : attributeBase (.Name x xp) f X.env (eval (.Name x xp) X.env) = eval (.Name x xp) X.env := by rfl) (hg : Gl X "len" := by rfl) (he : starEach [.Attribute (.Name x xp) f apos] X.env = (false, eval (.Attribute (.Name x xp) f apos) X.env) :: starEach [] X.env := by rfl) : DX X e ρ (.Call (.Name "len" p) [.Attribute (.Name x xp) f apos] [] pos) ρ (.dat (.int (ds.length : Nat))) :=
  PE.mono (pe_callB call_len_seq hg hml PySem.boot_len (pa_cons (pe_fldM i hN hv hd hcd hb) pa_nil he) (by decide) (by decide) he (by rfl)) fun σ H Q ⟨S, stk, cv, o, q⟩ => by
    obtain ⟨v, e1, o1, back⟩ := o.focus cv hρ
    obtain ⟨a, dx, vs, u, rfl, hx, hl, hu, o2⟩ := o1.openF hk
    obtain ⟨p, xs, rfl, hp, hd⟩ := ml_at (Os.unpin hm o2)
    refine ⟨.ref a, e1, a, C, dx, _, .ref p, rfl, hx, c, na, (lookup_zip hf hl).trans hu, p, xs, rfl, .inl (SqL.of hp), ?_⟩
    rw [hd.len]
    exact q _ H S cv (o.push (da_int _ _))
/-- self.f.m(e): a method of the list in a field, the argument looked at meanwhile -/
theorem dx_fldM {name : Str} {id : String} {r : V → List V → Hp → VK → Prop} {as ds ds' : List PyData} (i j : Nat) (c : Cls X.K C) (na : NoAttr X.K C f) (pa : PlainAttrs "list") (slot : Slot "list" name id) (hty : typeOf (.builtin id) = pure (.type "method_descriptor")) (hm : MtR X id r) (ha : ∀ u, DA X e (pinR ρ i C ns ks j ds u) (ea :: es) (pinR ρ i C ns ks j ds u) (pus as)) (hr : Rml X.K r ds as k ds')
    (hρ : ρ[i]? = some (some (.ob C ns ks)) := by rfl) (hf : FIx ns f j := by rfl) (hk : ks[j]? = some (.ml ds) := by rfl) (hN : X.N[i]? = some x := by rfl) (hv : Vis X.env.scope x := by first | exact Or.inl rfl | exact Or.inr (Or.inl rfl) | exact Or.inr (Or.inr rfl)) (hd : (x == ("__debug__" : Str)) = false := by decide) (hcd : (x == ("__classdict__" : Str)) = false := by decide)
    (hb : attributeBase (.Name x xp) f X.env (eval (.Name x xp) X.env) = eval (.Name x xp) X.env := by rfl) (hbase : attributeBase (.Attribute (.Name x xp) f p) name X.env (eval (.Attribute (.Name x xp) f p) X.env) = eval (.Attribute (.Name x xp) f p) X.env := by rfl)
    (hfew : ((backTo pos (starEach (ea :: es) X.env)).all (fun x => !x.1) && (backToKw pos (keywordEach [] X.env)).all (fun x => x.1.isSome) && decide ((ea :: es).length + ([] : List Keyword).length + (if ([] : List Keyword).isEmpty then 0 else 1) < 30)) = true := by rfl)
    (hline : (apos.endLine == pos.line) = true := by rfl) (hs : starEach (ea :: es) X.env = (false, eval ea X.env) :: starEach es X.env := by rfl) (hplain : (backTo pos (starEach es X.env)).any (·.1) = false := by rfl) :
    DX X e ρ (.Call (.Attribute (.Attribute (.Name x xp) f p) name apos) (ea :: es) [] pos) (ρ.set i (some (.ob C ns (ks.set j (.ml ds'))))) k := by
  refine ⟨fun pins s σ H Q I ⟨S, stk, cv, o, q⟩ => ?_⟩
  obtain ⟨a, dx, vs, u, e1, hx, hl, hu, c3, o3, hu0⟩ := pin_slot cv o hρ hk MlK.ml
  obtain ⟨v0, L0, o9, _⟩ := pin_at c3 o3 hρ hk
  obtain ⟨p0, xs0, rfl, hp0, _⟩ := ml_at o9
  refine (pe_bm pa slot hty hm (pe_fldM i hN hv hd hcd hb) (ha (.ref p0)) hbase hfew hline hs hplain).run pins s σ H Q I ⟨.ref a, e1, a, C, dx, _, .ref p0, rfl, hx, c, na, (lookup_zip hf hl).trans hu, ty_ml hp0, S, stk, c3, o3, fun vs H1 S1 c1 ok o4 => ?_⟩
  obtain ⟨e2, e3⟩ := pushed_pus ok
  rw [e2] at o4
  have hdd := Os.dats e3 o4
  obtain ⟨v, L, o5, back⟩ := pin_at c1 (o4.drops (M := (as.map Kd.dat).zip vs)) hρ hk
  refine hr e _ H1 S1 p0 vs Q o5 hdd fun w H' S' o6 => ?_
  obtain ⟨o7, c7, _⟩ := back (.ml ds') ((k, w) :: stk) H' S' (o6.perm (.swap _ _ _))
  exact q w H' S' c7 o7
/-- self.f.m() -/
theorem dx_fldM0 {name : Str} {id : String} {r : V → List V → Hp → VK → Prop} {ds ds' : List PyData} (i j : Nat) (c : Cls X.K C) (na : NoAttr X.K C f) (pa : PlainAttrs "list") (slot : Slot "list" name id) (hty : typeOf (.builtin id) = pure (.type "method_descriptor")) (hm : MtR X id r) (hr : Rml X.K r ds [] k ds')
    (hρ : ρ[i]? = some (some (.ob C ns ks)) := by rfl) (hf : FIx ns f j := by rfl) (hk : ks[j]? = some (.ml ds) := by rfl) (hN : X.N[i]? = some x := by rfl) (hv : Vis X.env.scope x := by first | exact Or.inl rfl | exact Or.inr (Or.inl rfl) | exact Or.inr (Or.inr rfl)) (hd : (x == ("__debug__" : Str)) = false := by decide) (hcd : (x == ("__classdict__" : Str)) = false := by decide)
    (hb : attributeBase (.Name x xp) f X.env (eval (.Name x xp) X.env) = eval (.Name x xp) X.env := by rfl) (hbase : attributeBase (.Attribute (.Name x xp) f p) name X.env (eval (.Attribute (.Name x xp) f p) X.env) = eval (.Attribute (.Name x xp) f p) X.env := by rfl)
    (hline : (apos.endLine == pos.line) = true := by rfl) :
    DX X e ρ (.Call (.Attribute (.Attribute (.Name x xp) f p) name apos) [] [] pos) (ρ.set i (some (.ob C ns (ks.set j (.ml ds'))))) k := by
  refine ⟨fun pins s σ H Q I ⟨S, stk, cv, o, q⟩ => ?_⟩
  obtain ⟨a, dx, vs, u, e1, hx, hl, hu, c3, o3, hu0⟩ := pin_slot cv o hρ hk MlK.ml
  obtain ⟨v, L, o5, back⟩ := pin_at c3 o3 hρ hk
  obtain ⟨p0, xs0, rfl, hp0, _⟩ := ml_at o5
  refine (pe_bm0 pa slot hty hm (pe_fldM i hN hv hd hcd hb) hbase hline).run pins s σ H Q I ⟨.ref a, e1, a, C, dx, _, .ref p0, rfl, hx, c, na, (lookup_zip hf hl).trans hu, ty_ml hp0, hr e _ H S p0 [] Q o5 DaL.nil fun w H' S' o6 => ?_⟩
  obtain ⟨o7, c7, _⟩ := back (.ml ds') ((k, w) :: stk) H' S' (o6.perm (.swap _ _ _))
  exact q w H' S' c7 o7
/-! stores -/
section
variable {pn : Pins} {W : L2.WX} {P : Po} {rest : List Stmt}
/-- self.f = e, a field that is there -/
theorem dss_fld (i j : Nat) {k0 : Kd} (c : Cls X.K C) (na : NoAttr X.K C f) (he : DX X e ρ ex ρ1 k) (h2 : DSs X e pn W (ρ1.set i (some (.ob C ns (ks.set j k)))) rest P) (hρ1 : ρ1[i]? = some (some (.ob C ns ks)) := by rfl) (hlt : ns.length < 1000 := by decide) (hf : FIx ns f j := by rfl) (hk : ks[j]? = some k0 := by rfl) (hN : X.N[i]? = some x := by rfl) (hv : Vis X.env.scope x := by first | exact Or.inl rfl | exact Or.inr (Or.inl rfl) | exact Or.inr (Or.inr rfl)) (hd : (x == ("__debug__" : Str)) = false := by decide) (hcd : (x == ("__classdict__" : Str)) = false := by decide)
    (hs : swapsWith ex (some (.Attribute (.Name x xp) f apos)) pos.line X.env = pure false := by rfl) : DSs X e pn W ρ (.Assign [.Attribute (.Name x xp) f apos] ex pos :: rest) P :=
  dss_one (ρ1 := ρ1.set i (some (.ob C ns (ks.set j k)))) (PS.mono (ps_fld (pe_var hN hv hd hcd) he hs) fun D σ H ⟨S, stk, cv, pi, o, Cc⟩ => ⟨S, stk, cv, o, fun y H1 S1 c1 o1 => by
    obtain ⟨v, e1, o2, back⟩ := o1.focus (L := (k, y) :: stk) c1 hρ1
    obtain ⟨a, dx, vs, rfl, hx, hl, o3⟩ := Os.setF (L := stk ++ ents (ρ1.set i none) σ) hf hk (o2.perm (.swap _ _ _))
    refine ⟨.ref a, e1, a, C, dx, _, rfl, hx, c, na, ?_, ?_⟩
    · rw [List.length_zip]
      omega
    · obtain ⟨o4, c4⟩ := back _ stk e _ S1 o3
      exact Cc.nx _ _ _ S1 rfl c4 pi o4⟩) h2
/-- self.f = e, a new field -/
theorem dss_fldN (i : Nat) (c : Cls X.K C) (na : NoAttr X.K C f) (he : DX X e ρ ex ρ1 k) (h2 : DSs X e pn W (ρ1.set i (some (.ob C (ns ++ [f]) (ks ++ [k])))) rest P) (hρ1 : ρ1[i]? = some (some (.ob C ns ks)) := by rfl) (hn : f ∉ ns := by decide) (hlt : ns.length < 1000 := by decide) (hN : X.N[i]? = some x := by rfl) (hv : Vis X.env.scope x := by first | exact Or.inl rfl | exact Or.inr (Or.inl rfl) | exact Or.inr (Or.inr rfl)) (hd : (x == ("__debug__" : Str)) = false := by decide) (hcd : (x == ("__classdict__" : Str)) = false := by decide)
    (hs : swapsWith ex (some (.Attribute (.Name x xp) f apos)) pos.line X.env = pure false := by rfl) : DSs X e pn W ρ (.Assign [.Attribute (.Name x xp) f apos] ex pos :: rest) P :=
  dss_one (ρ1 := ρ1.set i (some (.ob C (ns ++ [f]) (ks ++ [k])))) (PS.mono (ps_fld (pe_var hN hv hd hcd) he hs) fun D σ H ⟨S, stk, cv, pi, o, Cc⟩ => ⟨S, stk, cv, o, fun y H1 S1 c1 o1 => by
    obtain ⟨v, e1, o2, back⟩ := o1.focus (L := (k, y) :: stk) c1 hρ1
    obtain ⟨a, dx, vs, rfl, hx, hl, o3⟩ := Os.newF (L := stk ++ ents (ρ1.set i none) σ) hn (o2.perm (.swap _ _ _))
    refine ⟨.ref a, e1, a, C, dx, _, rfl, hx, c, na, ?_, ?_⟩
    · rw [List.length_zip]
      omega
    · obtain ⟨o4, c4⟩ := back _ stk e _ S1 o3
      exact Cc.nx _ _ _ S1 rfl c4 pi o4⟩) h2
end
end
end Ov
set_option Elab.async false
set_option linter.all false
set_option maxRecDepth 100000
set_option maxHeartbeats 1000000
namespace Ov
open PySem PySem.Spec PyProof.Rows L2
/-! ### methods -/
structure Mth (P : Program) (w : World) (K : PySem.W.Frag) (mg : Str → Option Value) (base : Heap) (C : Addr) (m : Str) (ps : List Str) (lv : Nat) (rel : Rel) : Prop where
  ex : ∃ f fd, FnOk P w K mg base (L2.CX P w) lv f fd ps (spG K rel) ∧ Meth K C m f ∧ Binds K fd ps []
section
variable {X : Cx} {e : En} {ρ ρ1 : Rho} {ea : Expr} {es : List Expr} {pos apos xp p : Pos} {k : Kd} {x m : Str} {ps : List Str} {lv : Nat} {rel : Rel} {C : Addr} {ns ns' : List Str} {ks0 ks ks' : List Kd} {ds : List PyData}
theorem meth_sp {σ : L2.St} {H1 S1 : Hp} {stk : En2} {i : Nat} {v : V} {vs : List V} {Q : VK} {k1 : Kd} (hσ : σ[i]? = some (some v)) (c1 : Cov ρ1 σ) (o : Os X.K e ((ds.map Kd.dat).zip vs ++ (stk ++ ents ρ1 σ)) H1 S1) (hl : ds.length = vs.length) (hρ1 : ρ1[i]? = some (some k1)) {k2 : Kd} (hrel : rel (k1 :: ds.map .dat) (k2 :: ds.map .dat) (.ret k))
    (q : ∀ w H' S', Cov (ρ1.set i (some k2)) σ → Os X.K e ((k, w) :: (stk ++ ents (ρ1.set i (some k2)) σ)) H' S' → Q w H') : spG X.K rel (v :: (vs ++ [])) H1 Q E0 := by
  rw [List.append_nil]
  obtain ⟨v', e1, o1, back⟩ := Os.focus (L := (ds.map Kd.dat).zip vs ++ stk) c1 hρ1 (by rw [List.append_assoc]; exact o)
  rw [hσ] at e1
  cases e1
  have o2 : Os X.K e ((k1 :: ds.map Kd.dat).zip (v :: vs) ++ (stk ++ ents (ρ1.set i none) σ)) H1 S1 := by
    rw [List.append_assoc] at o1
    exact o1
  refine sp_ret hrel (by simp [hl]) (by simp [hl]) o2 fun w H' S' o3 => ?_
  have o4 : Os X.K e ((k, w) :: (k2, v) :: ((ds.map Kd.dat).zip vs ++ (stk ++ ents (ρ1.set i none) σ))) H' S' := o3
  have o5 : Os X.K e ((k2, v) :: (((k, w) :: stk) ++ ents (ρ1.set i none) σ)) H' S' := by
    have o6 : Os X.K e ((ds.map Kd.dat).zip vs ++ ((k, w) :: (k2, v) :: (stk ++ ents (ρ1.set i none) σ))) H' S' := o4.perm (List.Perm.symm (List.perm_middle.trans (List.Perm.cons _ List.perm_middle)))
    exact (o6.drops).perm (.swap _ _ _)
  obtain ⟨o7, c7⟩ := back k2 ((k, w) :: stk) e H' S' o5
  exact q w H' S' c7 o7
/-- x.m(e, ..) -/
theorem dx_meth {pl : Sem Bool} (i : Nat) {k2 : Kd} (c : Cls X.K C) (G : Mth X.prog X.w X.K X.mg X.base C m ps lv rel) (hr : Room lv X.A) (ha : DA X e ρ (ea :: es) ρ1 (pus ds)) (hrel : rel (.ob C ns' ks :: ds.map .dat) (k2 :: ds.map .dat) (.ret k)) (hρ : ρ[i]? = some (some (.ob C ns ks0)) := by rfl) (hρ1 : ρ1[i]? = some (some (.ob C ns' ks)) := by rfl) (hm : m ∉ ns := by decide) (hN : X.N[i]? = some x := by rfl) (hv : Vis X.env.scope x := by first | exact Or.inl rfl | exact Or.inr (Or.inl rfl) | exact Or.inr (Or.inr rfl)) (hd : (x == ("__debug__" : Str)) = false := by decide) (hcd : (x == ("__classdict__" : Str)) = false := by decide)
    (hst : starEach (ea :: es) X.env = (false, eval ea X.env) :: starEach es X.env := by rfl) (hpl : (backTo pos (starEach es X.env)).any (·.1) = false := by rfl)
    (ht : eval (.Call (.Attribute (.Name x xp) m apos) (ea :: es) [] pos) X.env = (do
      let ov ← eval (.Name x xp) X.env
      standAt apos.atName
      let (f, first) ← holding [ov] (getMethod ov m pl)
      callWith pos f first (backTo pos (starEach (ea :: es) X.env)) (backToKw pos (keywordEach [] X.env))) := by rfl) :
    DX X e ρ (.Call (.Attribute (.Name x xp) m apos) (ea :: es) [] pos) (ρ1.set i (some k2)) k := by
  obtain ⟨f, fd, F, hmt, hb⟩ := G.ex
  refine PE.mono (pe_meth (pe_var hN hv hd hcd) c hmt F hr hb .nil passL ha hst hpl ht) fun σ H Q ⟨S, stk, cv, o, q⟩ => ?_
  obtain ⟨v, e1, o1, _⟩ := o.focus cv hρ
  obtain ⟨fp, hf⟩ := o1.ho
  simp only [Ho] at hf
  obtain ⟨a, dx, us, f', rfl, _, hx, _, hl, _⟩ := hf
  refine ⟨.ref a, e1, a, dx, _, rfl, hx, lookup_none hm, S, stk, cv, o, fun vs H1 S1 c1 ok o2 => ?_⟩
  obtain ⟨e2, e3⟩ := pushed_pus ok
  rw [e2] at o2
  exact meth_sp e1 c1 o2 e3 hρ1 hrel q
/-- x.m() -/
theorem dx_meth0 {pl : Sem Bool} (i : Nat) {k2 : Kd} (c : Cls X.K C) (G : Mth X.prog X.w X.K X.mg X.base C m ps lv rel) (hr : Room lv X.A) (hrel : rel [.ob C ns ks] [k2] (.ret k)) (hρ : ρ[i]? = some (some (.ob C ns ks)) := by rfl) (hm : m ∉ ns := by decide) (hN : X.N[i]? = some x := by rfl) (hv : Vis X.env.scope x := by first | exact Or.inl rfl | exact Or.inr (Or.inl rfl) | exact Or.inr (Or.inr rfl)) (hd : (x == ("__debug__" : Str)) = false := by decide) (hcd : (x == ("__classdict__" : Str)) = false := by decide)
    (ht : eval (.Call (.Attribute (.Name x xp) m apos) [] [] pos) X.env = (do
      let ov ← eval (.Name x xp) X.env
      standAt apos.atName
      let (f, first) ← holding [ov] (getMethod ov m pl)
      callWith pos f first (backTo pos (starEach [] X.env)) (backToKw pos (keywordEach [] X.env))) := by rfl) :
    DX X e ρ (.Call (.Attribute (.Name x xp) m apos) [] [] pos) (ρ.set i (some k2)) k := by
  obtain ⟨f, fd, F, hmt, hb⟩ := G.ex
  refine PE.mono (pe_meth0 (pe_var hN hv hd hcd) c hmt F hr hb .nil passL ht) fun σ H Q ⟨S, stk, cv, o, q⟩ => ?_
  obtain ⟨v, e1, o1, _⟩ := o.focus cv hρ
  obtain ⟨fp, hf⟩ := o1.ho
  simp only [Ho] at hf
  obtain ⟨a, dx, us, f', rfl, _, hx, _, hl, _⟩ := hf
  exact ⟨.ref a, e1, a, dx, _, rfl, hx, lookup_none hm, meth_sp (ds := []) (vs := []) e1 cv (by exact o) rfl hρ hrel q⟩
/-- a class's own __init__ -/
structure Ini (P : Program) (w : World) (K : PySem.W.Frag) (mg : Str → Option Value) (base : Heap) (C : Addr) (ps : List Str) (lv : Nat) (rel : Rel) : Prop where
  ex : ∃ f fd, FnOk P w K mg base (L2.CX P w) lv f fd ps (spG K rel) ∧ Mk K C f ∧ Binds K fd ps []
/-- C(e, ..) -/
theorem dx_make {ks' : List Kd} (G : Ini X.prog X.w X.K X.mg X.base C ps lv rel) (hr : Room (lv + 1) X.A) (hmg : X.mg x = some (.ref C)) (ha : DA X e ρ (ea :: es) ρ1 (pus ds)) (hrel : rel (.ob C [] [] :: ds.map .dat) (.ob C ns ks' :: ds.map .dat) (.ret (.dat .none))) (hg : Gl X x := by rfl) (hdb : (x == ("__debug__" : Str)) = false := by decide) (he : starEach (ea :: es) X.env = (false, eval ea X.env) :: starEach es X.env := by rfl) (hpl : (backTo pos (starEach es X.env)).any (·.1) = false := by rfl) :
    DX X e ρ (.Call (.Name x p) (ea :: es) [] pos) ρ1 (.ob C ns ks') := by
  obtain ⟨f, fd, F, hmk, hb⟩ := G.ex
  refine PE.mono (pe_make hmk F hr hg hmg hb .nil passL ha hdb he hpl) fun σ H Q ⟨S, stk, cv, o, q⟩ => ⟨S, stk, cv, o, fun vs H1 S1 c1 ok o2 a dx ha0 hd0 hne => ?_⟩
  obtain ⟨e2, e3⟩ := pushed_pus ok
  rw [e2] at o2
  rw [List.append_nil]
  -- the new instance
  have o3 : Os X.K e ((.ob C [] [], .ref a) :: ((ds.map Kd.dat).zip vs ++ (stk ++ ents ρ1 σ))) (upd (upd H1 dx (.own a)) a (.ins C dx [])) S1 := by
    obtain ⟨g, h, nd, hg'⟩ := o2.own
    have sa := o2.freshS ha0
    have sd := o2.freshS hd0
    have na : ∀ b ∈ g, b ≠ a ∧ b ≠ dx := fun b hb => ⟨fun z => (hg' b hb).2.1 (by rw [z]; exact ha0), fun z => (hg' b hb).2.1 (by rw [z]; exact hd0)⟩
    have mv : ∀ b, b ≠ a → b ≠ dx → upd (upd H1 dx (.own a)) a (.ins C dx []) b = H1 b := fun b h1 h2 => by rw [upd_ne h1, upd_ne h2]
    have same : Same H1 (upd (upd H1 dx (.own a)) a (.ins C dx [])) := fun b u q => by
      rw [mv b (ne_of_none q ha0) (ne_of_none q hd0)]
      exact q
    refine ⟨o2.same.trans same, fun b xs q => ?_, o2.old.trans same, o2.oldS, o2.grow, [a, dx] ++ g, .cons (f1 := [a, dx]) ?_ (h.mono (Same.refl S1) fun b hb => mv b (na b hb).1 (na b hb).2), ?_, fun b hb => ?_⟩
    · by_cases h1 : b = a
      · subst h1
        rw [upd_same] at q
        cases q
      · by_cases h2 : b = dx
        · subst h2
          rw [upd_ne h1, upd_same] at q
          cases q
        · rw [mv b h1 h2] at q
          exact o2.tups _ _ q
    · simp only [Ho]
      exact ⟨a, dx, [], [], rfl, rfl, by rw [upd_same]; rfl, by rw [upd_ne hne, upd_same], rfl, HoL.nil⟩
    · refine List.nodup_cons.mpr ⟨?_, List.nodup_cons.mpr ⟨fun z => (na dx z).2 rfl, nd⟩⟩
      intro z
      rcases List.mem_cons.mp z with z | z
      · exact hne z.symm
      · exact (na a z).1 rfl
    · have hb : b = a ∨ b = dx ∨ b ∈ g := by simpa using hb
      rcases hb with rfl | rfl | hb
      · exact ⟨sa, (by rw [upd_same]; intro z; cases z), o2.fresh0 ha0⟩
      · refine ⟨sd, ?_, o2.fresh0 hd0⟩
        rw [upd_ne hne, upd_same]
        intro z; cases z
      · obtain ⟨g1, g2, g3⟩ := hg' b hb
        refine ⟨g1, ?_, g3⟩
        rw [mv b (na b hb).1 (na b hb).2]
        exact g2
  have o4 : Os X.K e ((.ob C [] [] :: ds.map Kd.dat).zip (.ref a :: vs) ++ (stk ++ ents ρ1 σ)) (upd (upd H1 dx (.own a)) a (.ins C dx [])) S1 := o3
  refine sp_ret hrel (by simp [e3]) (by simp [e3]) o4 fun w H' S' o5 => ?_
  have o5 : Os X.K e ((.dat .none, w) :: (.ob C ns ks', .ref a) :: ((ds.map Kd.dat).zip vs ++ (stk ++ ents ρ1 σ))) H' S' := o5
  have hw := o5.dat
  simp only [Da] at hw
  refine ⟨hw, q _ H' S' c1 ?_⟩
  have o6 : Os X.K e ((ds.map Kd.dat).zip vs ++ ((.ob C ns ks', .ref a) :: (stk ++ ents ρ1 σ))) H' S' := o5.drop.perm List.perm_middle.symm
  exact o6.drops
end
end Ov
set_option Elab.async false
set_option linter.all false
set_option maxRecDepth 100000
set_option maxHeartbeats 1000000
namespace Ov
open PySem PySem.Spec PyProof.Rows L2
/-! ### dicts that are owned -/
def putD (kvs : List (Key × PyData)) (k : Key) (d : PyData) : List (Key × PyData) :=
  if (kvs.any fun kv => decide (kv.1 = k)) = true then kvs.map (fun kv => if kv.1 = k then (kv.1, d) else kv) else kvs ++ [(k, d)]
def getD (kvs : List (Key × PyData)) (k : Key) : OP := (kvs.find? fun kv => decide (kv.1 = k)).map (·.2)
theorem length_putD (kvs : List (Key × PyData)) (k : Key) (d : PyData) : (putD kvs k d).length ≤ kvs.length + 1 := by
  unfold putD
  split
  · rw [List.length_map]; omega
  · rw [List.length_append, List.length_cons, List.length_nil]; omega
section
variable {K : PySem.W.Frag} {S : Hp}
def DkL (K : PySem.W.Frag) (S : Hp) (kvs : List (Key × PyData)) (ws : List (Key × V)) : Prop := ws.map (·.1) = kvs.map (·.1) ∧ DaL K S (kvs.map (·.2)) (ws.map (·.2))
theorem dkl_cons {p : Key × PyData} {kvs : List (Key × PyData)} {ws : List (Key × V)} (h : DkL K S (p :: kvs) ws) : ∃ v vs, ws = (p.1, v) :: vs ∧ Da K S p.2 v ∧ DkL K S kvs vs := by
  obtain ⟨h1, h2⟩ := h
  cases ws with
  | nil => simp at h1
  | cons w ws =>
    obtain ⟨k, v⟩ := w
    simp only [List.map_cons, List.cons.injEq] at h1
    simp only [List.map_cons, DaL] at h2
    obtain ⟨v', vs', e, h3, h4⟩ := h2
    injection e with e1 e2
    refine ⟨v, ws, by rw [← h1.1], by rw [e1]; exact h3, h1.2, by rw [e2]; exact h4⟩
theorem dkl_mk {p : Key × PyData} {kvs : List (Key × PyData)} {v : V} {vs : List (Key × V)} (h : Da K S p.2 v) (t : DkL K S kvs vs) : DkL K S (p :: kvs) ((p.1, v) :: vs) := ⟨by simp [t.1], DaL.cons h t.2⟩
theorem dkl_any : ∀ {kvs : List (Key × PyData)} {ws : List (Key × V)} (k : Key), DkL K S kvs ws → (ws.any fun kv => decide (kv.1 = k)) = (kvs.any fun kv => decide (kv.1 = k))
  | [], ws, k, h => by
    obtain ⟨h1, _⟩ := h
    simp at h1
    subst h1
    rfl
  | p :: kvs, ws, k, h => by
    obtain ⟨v, vs, rfl, _, h2⟩ := dkl_cons h
    simp only [List.any_cons, dkl_any k h2]
theorem dkl_map {d : PyData} {v : V} (hd : Da K S d v) : ∀ {kvs : List (Key × PyData)} {ws : List (Key × V)} (k : Key), DkL K S kvs ws → DkL K S (kvs.map (fun kv => if kv.1 = k then (kv.1, d) else kv)) (ws.map (fun kv => if kv.1 = k then (kv.1, v) else kv))
  | [], ws, k, h => by
    obtain ⟨h1, _⟩ := h
    simp at h1
    subst h1
    exact ⟨rfl, DaL.nil⟩
  | p :: kvs, ws, k, h => by
    obtain ⟨w, vs, rfl, h1, h2⟩ := dkl_cons h
    simp only [List.map_cons]
    by_cases e : p.1 = k
    · rw [if_pos e, if_pos e]
      exact dkl_mk (p := (p.1, d)) hd (dkl_map hd k h2)
    · rw [if_neg e, if_neg e]
      exact dkl_mk h1 (dkl_map hd k h2)
theorem dkl_snoc {k : Key} {d : PyData} {v : V} (hd : Da K S d v) : ∀ {kvs : List (Key × PyData)} {ws : List (Key × V)}, DkL K S kvs ws → DkL K S (kvs ++ [(k, d)]) (ws ++ [(k, v)])
  | [], ws, h => by
    obtain ⟨h1, _⟩ := h
    simp at h1
    subst h1
    exact dkl_mk (p := (k, d)) hd ⟨rfl, DaL.nil⟩
  | p :: kvs, ws, h => by
    obtain ⟨w, vs, rfl, h1, h2⟩ := dkl_cons h
    exact dkl_mk h1 (dkl_snoc hd h2)
theorem dkl_put {k : Key} {d : PyData} {v : V} {kvs : List (Key × PyData)} {ws : List (Key × V)} (h : DkL K S kvs ws) (hd : Da K S d v) : DkL K S (putD kvs k d) (putK ws k v) := by
  unfold putD putK
  rw [dkl_any k h]
  split
  · exact dkl_map hd k h
  · exact dkl_snoc hd h
theorem dkl_len {kvs : List (Key × PyData)} {ws : List (Key × V)} (h : DkL K S kvs ws) : ws.length = kvs.length := by
  have := congrArg List.length h.1
  simpa using this
theorem dkl_get : ∀ {kvs : List (Key × PyData)} {ws : List (Key × V)} (k : Key), DkL K S kvs ws → (getD kvs k = none ∧ valV ws k = none) ∨ ∃ d v, getD kvs k = some d ∧ valV ws k = some v ∧ Da K S d v
  | [], ws, k, h => by
    obtain ⟨h1, _⟩ := h
    simp at h1
    subst h1
    exact .inl ⟨rfl, rfl⟩
  | p :: kvs, ws, k, h => by
    obtain ⟨w, vs, rfl, h1, h2⟩ := dkl_cons h
    by_cases e : p.1 = k
    · refine .inr ⟨p.2, w, ?_, valV_pos (p := (p.1, w)) e, h1⟩
      unfold getD
      simp [List.find?_cons, e]
    · have e1 : getD (p :: kvs) k = getD kvs k := by
        unfold getD
        simp [List.find?_cons, e]
      have e2 : valV ((p.1, w) :: vs) k = valV vs k := valV_neg (p := (p.1, w)) e
      rw [e1, e2]
      exact dkl_get k h2
end
/-- the items that pass, put in turn -/
def dcD {α : Type} (c : α → Bool) (kf : α → Int) (vf : α → PyData) (l : List α) : List (Key × PyData) := (l.filter c).foldl (fun kvs d => putD kvs (.inl (kf d)) (vf d)) []
theorem dcD_take {α : Type} {ds : List α} {c : α → Bool} {kf : α → Int} {vf : α → PyData} {i : Nat} {d : α} (h : ds[i]? = some d) : dcD c kf vf (ds.take (i + 1)) = if c d = true then putD (dcD c kf vf (ds.take i)) (.inl (kf d)) (vf d) else dcD c kf vf (ds.take i) := by
  rw [List.take_add_one, h]
  unfold dcD
  rw [List.filter_append, List.foldl_append]
  cases hc : c d <;> simp [hc]
theorem dcD_len {α : Type} {c : α → Bool} {kf : α → Int} {vf : α → PyData} (l : List α) : (dcD c kf vf l).length ≤ l.length := by
  unfold dcD
  suffices h : ∀ (m : List α) (kvs : List (Key × PyData)), (m.foldl (fun kvs d => putD kvs (.inl (kf d)) (vf d)) kvs).length ≤ kvs.length + m.length by
    have h1 := h (l.filter c) []
    have h2 := List.length_filter_le c l
    simp only [List.length_nil] at h1
    omega
  intro m
  induction m with
  | nil => intro kvs; simp
  | cons a m ih =>
    intro kvs
    rw [List.foldl_cons]
    have h1 := ih (putD kvs (.inl (kf a)) (vf a))
    have h2 := length_putD kvs (.inl (kf a)) (vf a)
    simp only [List.length_cons]
    omega
section
variable {e : En} {ρ ρ1 : Rho}
theorem dc_turn {α : Type} {enc : α → PyData} {K : PySem.W.Frag} {wi : TI} {g : TG} {tt : TT} {tk te : TE} {vs : List Nat} {σ : L2.St} {H : Hp} {Q : VK} {ds : List α} {c : α → Bool} {kf : α → Int} {f : α → PyData} {ρd : α → Rho} {ts : List Nat}
    (hg : g = fun v σ H Q => ∃ d, d ∈ ds ∧ tG K e (wipeR ρ1 vs) (.dat (enc d)) (ρd d) ts v σ H Q) (ht : tt = fun σ H Q => ∃ d, d ∈ ds ∧ tT K e (ρd d) (ρd d) (c d) σ H Q)
    (hk : tk = fun σ H Q => ∃ d, (d ∈ ds ∧ c d = true) ∧ tX K e (ρd d) (ρd d) (.dat (.int (kf d))) σ H Q) (he : te = fun σ H Q => ∃ d, (d ∈ ds ∧ c d = true) ∧ tX K e (ρd d) (ρd d) (.dat (f d)) σ H Q)
    (hts : ∀ t ∈ ts, t ∈ vs) (hw : ∀ d ∈ ds, wipeR (ρd d) vs = wipeR ρ1 vs) (hwi : wi = fun σ H R => ∃ S stk, Cov ρ σ ∧ Os K e (stk ++ ents ρ σ) H S ∧ ∀ J L0 H' S', (ds.map enc).length ≤ sizeLine → Wk K e J L0 (ds.map enc) → Cov ρ1 σ → Os K e (L0 ++ (stk ++ ents ρ1 σ)) H' S' → R J H')
    (h : tX K e ρ ρ1 (.dk (dcD c kf f ds)) σ H Q) : tDc wi g tt tk te vs σ H Q := by
  obtain ⟨S, stk, c0, o, q⟩ := h
  subst hwi
  refine ⟨S, stk, c0, o, fun J L0 H1 S1 hz W c1 o1 D hD => ?_⟩
  have hlen : (ds.map enc).length = ds.length := List.length_map ..
  rw [hlen] at hz
  obtain ⟨M, pM, cM⟩ := ents_hide vs c1
  have oM : Os K e (L0 ++ ((stk ++ M) ++ ents (wipeR ρ1 vs) (L2.wipe σ vs))) H1 S1 := o1.perm (List.Perm.append_left _ (by rw [List.append_assoc]; exact pM.append_left stk))
  refine ⟨fun i m H' => m = ds.length - i ∧ i ≤ ds.length ∧ ∃ S', Os K e ((.dk (dcD c kf f (ds.take i)), .ref D) :: (L0 ++ ((stk ++ M) ++ ents (wipeR ρ1 vs) (L2.wipe σ vs)))) H' S', ⟨ds.length, rfl, Nat.zero_le _, S1, ?_⟩, ?_⟩
  · refine oM.newO hD (fun xs z => by cases z) ?_
    simp only [Ho]
    exact ⟨D, [], rfl, rfl, upd_same, rfl, DaL.nil⟩
  · rintro i m H' ⟨rfl, hi, S', oi⟩
    have og : Os K e (L0 ++ ((.dk (dcD c kf f (ds.take i)), .ref D) :: ((stk ++ M) ++ ents (wipeR ρ1 vs) (L2.wipe σ vs)))) H' S' := oi.perm List.perm_middle.symm
    by_cases hlt : i < ds.length
    · refine .inr ⟨W.goes i H' S' _ (by rw [hlen]; exact hlt) og, fun H'' => ∃ S'', Os K e ((.dk (dcD c kf f (ds.take (i + 1))), .ref D) :: (L0 ++ ((stk ++ M) ++ ents (wipeR ρ1 vs) (L2.wipe σ vs)))) H'' S'', fun H'' n => ⟨ds.length - (i + 1), by omega, rfl, hlt, n⟩, fun x H2 y => ?_⟩
      have hd : ds[i]? = some ds[i] := List.getElem?_eq_getElem hlt
      have md : ds[i] ∈ ds := List.getElem_mem hlt
      obtain ⟨S2, o2⟩ := W.yields i H' S' _ x H2 (enc ds[i]) (by rw [List.getElem?_map, hd]; rfl) og y
      subst hg
      refine ⟨ds[i], md, S2, (.dk (dcD c kf f (ds.take i)), .ref D) :: (L0 ++ (stk ++ M)), cM, ?_, fun σ3 H3 S3 s3 c3 o3 => ?_⟩
      · refine o2.perm (List.Perm.cons _ ?_)
        have e9 : ((Kd.dk (dcD c kf f (ds.take i)), V.ref D) :: (L0 ++ (stk ++ M))) ++ ents (wipeR ρ1 vs) (L2.wipe σ vs) = (Kd.dk (dcD c kf f (ds.take i)), V.ref D) :: (L0 ++ ((stk ++ M) ++ ents (wipeR ρ1 vs) (L2.wipe σ vs))) := by rw [List.cons_append, List.append_assoc]
        rw [e9]
        exact List.perm_middle
      · have e3 : L2.wipe σ3 vs = L2.wipe σ vs := wipe_of_slots s3 hts
        refine ⟨e3, ?_⟩
        subst ht
        refine ⟨ds[i], md, S3, _, c3, o3, fun H4 S4 c4 o4 => ?_⟩
        have back : ∀ {H5 S5 : Hp} {L : En2}, Os K e (L ++ ents (ρd ds[i]) σ3) H5 S5 → Os K e (L ++ ents (wipeR ρ1 vs) (L2.wipe σ vs)) H5 S5 := fun {H5 S5 L} o5 => by
          obtain ⟨o6, _⟩ := Os.wipe vs c3 o5
          rw [e3, hw _ md] at o6
          exact o6
        cases hc : c ds[i] with
        | false =>
          refine iteF ⟨S4, ?_⟩
          rw [dcD_take hd, hc, if_neg Bool.false_ne_true]
          have o5 := back o4
          rw [List.cons_append, List.append_assoc] at o5
          exact o5
        | true =>
          subst hk
          subst he
          refine iteT ⟨ds[i], ⟨md, hc⟩, S4, _, c4, o4, fun y0 H40 S40 c40 o40 => ?_⟩
          have hy0 := o40.dat
          simp only [Da] at hy0
          refine ⟨ds[i], ⟨md, hc⟩, S40, _, c40, o40.drop, fun y H5 S5 c5 o5 => ?_⟩
          have hy : Da K S5 (f ds[i]) y := o5.dat
          have o6 : Os K e ((.dk (dcD c kf f (ds.take i)), .ref D) :: (L0 ++ (stk ++ M)) ++ ents (ρd ds[i]) σ3) H5 S5 := o5.drop
          obtain ⟨fp, hf⟩ := (show Os K e ((.dk (dcD c kf f (ds.take i)), .ref D) :: ((L0 ++ (stk ++ M)) ++ ents (ρd ds[i]) σ3)) H5 S5 from o6).ho
          simp only [Ho] at hf
          obtain ⟨p, xs, e7, e8, hp, hx1, hx2⟩ := hf
          cases e7
          have hl : xs.length ≤ i := by
            rw [dkl_len ⟨hx1, hx2⟩]
            refine Nat.le_trans (dcD_len _) ?_
            rw [List.length_take]
            omega
          refine ⟨xs, .inl (kf ds[i]), hy0, hp, by omega, S5, ?_⟩
          have o7 : Os K e ((.dk (dcD c kf f (ds.take (i + 1))), .ref D) :: ((L0 ++ (stk ++ M)) ++ ents (ρd ds[i]) σ3)) (upd H5 D (.dK (putK xs (.inl (kf ds[i])) y))) S5 := by
            refine Os.write (k := .dk (dcD c kf f (ds.take i))) o6 (fun f hf => ?_) (fun xs z => by cases z) (fun f hf _ => ?_)
            · simp only [Ho] at hf
              obtain ⟨p, _, e7, rfl, _⟩ := hf
              cases e7
              simp
            · simp only [Ho] at hf ⊢
              obtain ⟨p, ys, e7, rfl, hp', hy1, hy2⟩ := hf
              cases e7
              rw [hp] at hp'
              cases hp'
              rw [dcD_take hd, hc, if_pos rfl]
              obtain ⟨z1, z2⟩ := dkl_put (k := .inl (kf ds[i])) ⟨hy1, hy2⟩ hy
              exact ⟨D, _, rfl, rfl, upd_same, z1, z2⟩
          have o8 := back (L := (.dk (dcD c kf f (ds.take (i + 1))), .ref D) :: (L0 ++ (stk ++ M))) o7
          rw [List.cons_append, List.append_assoc] at o8
          exact o8
    · have e1 : i = ds.length := by omega
      subst e1
      rw [List.take_length] at oi
      refine .inl ⟨(hlen ▸ W.stops H' S' _ og : J.stop ds.length H'), q _ H' S' c1 ?_⟩
      have p9 : ((stk ++ M) ++ ents (wipeR ρ1 vs) (L2.wipe σ vs)).Perm (stk ++ ents ρ1 σ) := by
        rw [List.append_assoc]
        exact pM.symm.append_left stk
      have o9 := og.perm (List.Perm.append_left L0 (p9.cons _))
      rw [List.take_length] at o9
      exact o9.drops
variable {X : Cx} {pos : Pos} {tg : Expr}
theorem dx_dc {α : Type} {l : List α} {enc : α → PyData} {kx elt iter : Expr} {ifs : List Expr} {scope : Scope} {own : List (Str × Nat)} {c : α → Bool} {kf : α → Int} {f : α → PyData} (ρd : α → Rho) (ts : List Nat) (hc : X.calm = true) (hN : X.N.Nodup)
    (hi : DI X e ρ tg iter ρ1 (l.map enc)) (ok : BlkOk X.N X.env.scope scope own)
    (hg : ∀ (s : Shared) (H : Hp) (C : Addr) (cl : List (Str × Addr)) (fp : List Addr) (d : α), d ∈ l → DG (X.blk s H scope (compEnvC scope cl C X.env) fp) e (wipeR ρ1 (own.map (·.2))) tg (.dat (enc d)) (ρd d) ts)
    (ht : ∀ (s : Shared) (H : Hp) (C : Addr) (cl : List (Str × Addr)) (fp : List Addr) (d : α), d ∈ l → DTs (X.blk s H scope (compEnvC scope cl C X.env) fp) e (ρd d) ifs (ρd d) (c d))
    (hk : ∀ (s : Shared) (H : Hp) (C : Addr) (cl : List (Str × Addr)) (fp : List Addr) (d : α), d ∈ l → c d = true → DX (X.blk s H scope (compEnvC scope cl C X.env) fp) e (ρd d) kx (ρd d) (.dat (.int (kf d))))
    (he : ∀ (s : Shared) (H : Hp) (C : Addr) (cl : List (Str × Addr)) (fp : List Addr) (d : α), d ∈ l → c d = true → DX (X.blk s H scope (compEnvC scope cl C X.env) fp) e (ρd d) elt (ρd d) (.dat (f d)))
    (hts : ∀ t ∈ ts, t ∈ own.map (·.2)) (hw : ∀ d ∈ l, wipeR (ρd d) (own.map (·.2)) = wipeR ρ1 (own.map (·.2))) (hs : ∀ x, foldedSetIterable iter X.env x = pure x := by intro _; rfl) :
    DX X e ρ (.DictComp kx elt [⟨tg, iter, ifs, 0⟩] scope pos) ρ1 (.dk (dcD c kf f l)) :=
  PE.mono (pe_dc hc hN hi ok (fun s H C cl fp => pg_ex (X := X.blk s H scope (compEnvC scope cl C X.env) fp) (tg := tg) (t := fun d : α => tG X.K e (wipeR ρ1 (List.map (fun p : Str × Nat => p.2) own)) (.dat (enc d)) (ρd d) ts) (p := fun d => d ∈ l) fun d md => hg s H C cl fp d md) (fun s H C cl fp => pts_ex (X := X.blk s H scope (compEnvC scope cl C X.env) fp) (t := fun d : α => tT X.K e (ρd d) (ρd d) (c d)) (p := fun d => d ∈ l) fun d md => ht s H C cl fp d md) (fun s H C cl fp => pe_ex (X := X.blk s H scope (compEnvC scope cl C X.env) fp) (t := fun d : α => tX X.K e (ρd d) (ρd d) (.dat (.int (kf d)))) (p := fun d => d ∈ l ∧ c d = true) fun d md => hk s H C cl fp d md.1 md.2) (fun s H C cl fp => pe_ex (X := X.blk s H scope (compEnvC scope cl C X.env) fp) (t := fun d : α => tX X.K e (ρd d) (ρd d) (.dat (f d))) (p := fun d => d ∈ l ∧ c d = true) fun d md => he s H C cl fp d md.1 md.2) hs)
    fun σ H Q h => dc_turn rfl rfl rfl rfl hts hw rfl h
end
end Ov
set_option Elab.async false
set_option linter.all false
set_option maxRecDepth 100000
set_option maxHeartbeats 1000000
namespace Ov
open PySem PySem.Spec PyProof.Rows L2
/-! ### len of an instance; try with finally; a field's number; a field's dict; a method's body -/
section
variable {X : Cx} {e : En} {ρ ρ1 ρ2 : Rho} {ea eb ex : Expr} {es : List Expr} {pos apos xp p : Pos} {k : Kd} {x m f : Str} {ps : List Str} {lv : Nat} {rel : Rel} {C : Addr} {ns ns' : List Str} {ks0 ks ks' : List Kd} {ds : List PyData} {fd : FuncData}
theorem call_lenO {g : Addr} {sp : List V → Hp → VK → XK → Prop} (M : Meth X.K C "__len__" g) (F : FnOk X.prog X.w X.K X.mg X.base (L2.CX X.prog X.w) lv g fd ps sp) (hb : Binds X.K fd ps []) (hr : Room (lv + 1) X.A) :
    CallR X (.builtin "len") (fun xs H Q => ∃ a dx fs, xs = [.ref a] ∧ H a = some (.ins C dx fs) ∧ sp [.ref a] H (fun v H' => ∃ n : Int, v = .int n ∧ (0 ≤ n ∧ n < 2 ^ 63) ∧ Q (.int n) H') E0) := by
  intro pins s σ H xs us Q I rv h
  obtain ⟨a, dx, fs, rfl, ha, q⟩ := h
  obtain ⟨u, rfl, ru⟩ : ∃ u, us = [u] ∧ RelV (.ref a) u := by
    cases rv with
    | cons h1 h2 =>
      cases h2
      exact ⟨_, rfl, h1⟩
  obtain rfl : u = Value.ref a := ru
  obtain ⟨mA, O, _⟩ := ins_get I.hok ha
  obtain ⟨od, J, _⟩ := O.look
  obtain ⟨mL, hn, _⟩ := I.loc
  have hFr : PyProof.Rows.Fr X.base X.env.locals s.heap mL := ⟨hn, I.bk, Nat.le_trans I.ok.bsz I.ok.above⟩
  refine PySem.W.len_K hFr I.ok.mod.kin J M.at_ M.fn ?_
  have hl : ([Value.ref a] ++ []).length = ps.length := F.len _ _ _ _ q
  refine wpAny_call (codeAny_mono (F.run X.A.in1 X.stack s H ⟨[.ref a], []⟩ [.ref a] [.ref a] _ E0 hr.in1 I.env0.in1 (hb s [.ref a] I.kIn hl) (.cons rfl .nil) q) fun r s' hq => ?_)
  cases r with
  | error u => exact passL pins σ H s u s' I hq
  | ok fl =>
    cases fl with
    | ret u =>
      obtain ⟨v, H', I', r', n, rfl, hn, q'⟩ := I.after hq
      obtain ⟨t, rfl⟩ := r'
      exact ⟨hn, .int n, H', I'.tok _, ⟨_, rfl⟩, q'⟩
    | next => exact False.elim hq
    | brk => exact False.elim hq
    | cont => exact False.elim hq
/-! ### try: body / finally: suite, nothing raised -/
def tTryF (tb tf : TS) : TS := fun D σ H => tb { nx := fun σ1 H1 => tf { nx := D.nx, rt := fun _ _ => False } σ1 H1, rt := fun _ _ => False } σ H
theorem ps_tryF {body : List Stmt} {f₀ : Stmt} {fs : List Stmt} {tb tf : TS} (hb : PSs X.nox body tb) (hf : PSs X.nox (f₀ :: fs) tf) : PS X (.Try body [] [] (f₀ :: fs) pos) (tTryF tb tf) := by
  refine ⟨fun pins s σ H D I h => ?_⟩
  refine wpAny_Try_finally (wpAny_mono (hb.run pins s σ H _ (I.wish _) h) (fun g s1 q => ?_) fun _ _ z => False.elim z)
  cases g with
  | next =>
    obtain ⟨σ1, H1, I1, q1⟩ := q
    refine wpAny_execs_nil (wpAny_mono (hf.run pins s1 σ1 H1 _ I1 q1) (fun g2 s2 q2 => ?_) fun _ _ z => False.elim z)
    cases g2 with
    | next =>
      obtain ⟨σ2, H2, I2, q2⟩ := q2
      exact ⟨σ2, H2, I2.unwish, q2⟩
    | ret u =>
      obtain ⟨_, _, _, _, _, z⟩ := q2
      exact False.elim z
    | brk =>
      obtain ⟨_, _, _, z⟩ := q2
      exact False.elim z
    | cont =>
      obtain ⟨_, _, _, z⟩ := q2
      exact False.elim z
  | ret u =>
    obtain ⟨_, _, _, _, _, z⟩ := q
    exact False.elim z
  | brk =>
    obtain ⟨_, _, _, z⟩ := q
    exact False.elim z
  | cont =>
    obtain ⟨_, _, _, z⟩ := q
    exact False.elim z
variable {pn : Pins} {W : L2.WX} {rest body : List Stmt} {P : Po}
theorem dss_try {f₀ : Stmt} {fs : List Stmt} (hb : DSs X.nox e pn W ρ body { nx := (· = ρ1) }) (hf : DSs X.nox e pn W ρ1 (f₀ :: fs) { nx := (· = ρ2) }) (h2 : DSs X e pn W ρ2 rest P) : DSs X e pn W ρ (.Try body [] [] (f₀ :: fs) pos :: rest) P :=
  dss_one (PS.mono (ps_tryF hb hf) fun D σ H ⟨S, stk, c, pi, o, C⟩ => ⟨S, stk, c, pi, o, fun ρ' σ' H' S' z c' pi' o' => by
      have z : ρ' = ρ1 := z
      subst z
      exact ⟨S', stk, c', pi', o', fun ρ2' σ2 H2 S2 z2 => C.nx ρ2' σ2 H2 S2 z2, fun _ _ _ _ z => z.elim, fun _ _ _ _ z => z.elim, fun _ _ _ _ _ _ z => z.elim, fun _ _ _ _ _ _ _ z => z.elim⟩,
    fun _ _ _ _ z => z.elim, fun _ _ _ _ z => z.elim, fun _ _ _ _ _ _ z => z.elim, fun _ _ _ _ _ _ _ z => z.elim⟩) h2
/-- x.f.get(y, z), ints -/
theorem dx_fldGet (i j t : Nat) {kvs : List (Key × PyData)} {y : Str} {yp cp : Pos} {n z : Int} {qk qp} (c : Cls X.K C) (na : NoAttr X.K C f) (hu : X.A.units + 1 < cLine) (hρ : ρ[i]? = some (some (.ob C ns ks)) := by rfl) (hf : FIx ns f j := by rfl) (hk : ks[j]? = some (.dk kvs) := by rfl) (ht : ρ[t]? = some (some (.dat (.int n))) := by rfl)
    (hN : X.N[i]? = some x := by rfl) (hv : Vis X.env.scope x := by first | exact Or.inl rfl | exact Or.inr (Or.inl rfl) | exact Or.inr (Or.inr rfl)) (hd : (x == ("__debug__" : Str)) = false := by decide) (hcd : (x == ("__classdict__" : Str)) = false := by decide)
    (hN2 : X.N[t]? = some y := by rfl) (hv2 : Vis X.env.scope y := by first | exact Or.inl rfl | exact Or.inr (Or.inl rfl) | exact Or.inr (Or.inr rfl)) (hd2 : (y == ("__debug__" : Str)) = false := by decide) (hcd2 : (y == ("__classdict__" : Str)) = false := by decide)
    (hb : attributeBase (.Name x xp) f X.env (eval (.Name x xp) X.env) = eval (.Name x xp) X.env := by rfl)
    (hm1 : attributeBase (.Attribute (.Name x xp) f pos) "get" X.env (eval (.Attribute (.Name x xp) f pos) X.env) = eval (.Attribute (.Name x xp) f pos) X.env := by rfl)
    (hm3 : (apos.endLine == cp.line) = true := by rfl) : DX X e ρ (.Call (.Attribute (.Attribute (.Name x xp) f pos) "get" apos) [.Name y yp, .Constant (.int z) qk qp] [] cp) ρ (.dat ((getD kvs (.inl n)).getD (.int z))) :=
  PE.mono (pe_dget2 hu (pe_fldM i hN hv hd hcd hb) (pe_var hN2 hv2 hd2 hcd2) pe_int ⟨hm1, by rfl, hm3, by rfl⟩) fun σ H Q ⟨S, stk, cv, o, q⟩ => by
    obtain ⟨v, e1, o1, back⟩ := o.focus cv hρ
    obtain ⟨a, dx, vs, u, rfl, hx, hl, hu, o2⟩ := o1.openF hk
    obtain ⟨fp, hh⟩ := o2.ho
    simp only [Ho] at hh
    obtain ⟨p, ws, rfl, _, hp, hk1, hk2⟩ := hh
    obtain ⟨v2, e2, o3, _⟩ := o.focus cv ht
    have hy := o3.dat
    simp only [Da] at hy
    subst hy
    refine ⟨.ref a, e1, a, C, dx, _, .ref p, rfl, hx, c, na, (lookup_zip hf hl).trans hu, p, rfl, .inl ⟨ws, .inl hp⟩, .int n, e2, _, DGet.k (k := .inl n) hp, ?_⟩
    have q' : ∀ v, Da X.K S ((getD kvs (.inl n)).getD (.int z)) v → Q v H := fun v h => q v H S cv (o.push h)
    rcases dkl_get (.inl n) ⟨hk1, hk2⟩ with ⟨h1, h2⟩ | ⟨d, v, h1, h2, h3⟩
    · rw [h2]
      refine q' _ ?_
      rw [h1]
      simp only [Option.getD, Da]
    · rw [h2]
      refine q' _ ?_
      rw [h1]
      exact h3
/-! ### a method's body -/
theorem Mth.of {PP : Program} {w : World} {K : PySem.W.Frag} {mg : Str → Option Value} {base : Heap} {qual : Str} {st : Stmt} {fa : Addr} {N : List Str} {kk : Nat} (F : Fun K m qual st fa fd) (Sc : FnScope N ps (defScope st)) (hm : Meth K C m fa) (hb : Binds K fd ps [])
    (hrel : ∀ ks ks' r, rel ks ks' r → ks.length = ps.length ∧ keepD ks ks')
    (body : ∀ (cdv : Value) (A : Around) (outer : List Env) (s : Shared) (H : Hp) (E : XK), Room kk (A.deeper (envOfC qual (defScope st) s.heap.objs.size fa cdv)) → ∀ (e : En) (vs : List V) (ks ks' : List Kd) (r : Res), rel ks ks' r →
      DSs (cxOf (L2.CX PP w) PP w K mg base N qual (defScope st) fa cdv A outer s H E) e (pinOf 0 ks, vs) (fun cls d _ H => E cls d H) (rho0 N ks) (defBody st) (goal (pinOf 0 ks) ks' r)) :
    Mth PP w K mg base C m ps (kk + 1) rel := ⟨fa, fd, ok_of F Sc hrel body, hm, hb⟩
theorem Ini.of {PP : Program} {w : World} {K : PySem.W.Frag} {mg : Str → Option Value} {base : Heap} {qual : Str} {st : Stmt} {fa : Addr} {N : List Str} {kk : Nat} (F : Fun K m qual st fa fd) (Sc : FnScope N ps (defScope st)) (hm : Mk K C fa) (hb : Binds K fd ps [])
    (hrel : ∀ ks ks' r, rel ks ks' r → ks.length = ps.length ∧ keepD ks ks')
    (body : ∀ (cdv : Value) (A : Around) (outer : List Env) (s : Shared) (H : Hp) (E : XK), Room kk (A.deeper (envOfC qual (defScope st) s.heap.objs.size fa cdv)) → ∀ (e : En) (vs : List V) (ks ks' : List Kd) (r : Res), rel ks ks' r →
      DSs (cxOf (L2.CX PP w) PP w K mg base N qual (defScope st) fa cdv A outer s H E) e (pinOf 0 ks, vs) (fun cls d _ H => E cls d H) (rho0 N ks) (defBody st) (goal (pinOf 0 ks) ks' r)) :
    Ini PP w K mg base C ps (kk + 1) rel := ⟨fa, fd, ok_of F Sc hrel body, hm, hb⟩
end
end Ov
set_option Elab.async false
set_option linter.all false
set_option maxRecDepth 100000
set_option maxHeartbeats 1000000
namespace Ov
open PySem PySem.Spec PyProof.Rows L2
theorem fin0 {ks' : List Kd} {ρ : Rho} (h : ρ[0]? = ks'[0]?.map some) : fin [0] ks' ρ := fun i hi => by
  have : i = 0 := by simpa using hi
  subst this
  exact h
theorem Am.nox {X : Cx} {lv : Nat} (am : Am X lv) : Am X.nox lv := ⟨am.calm, am.nod, am.room, am.bl⟩
section
variable {X : Cx} {e : En} {ρ : Rho} {ex : Expr}
theorem OX.dx {m : OP} {d : PyData} (h : OX X e ρ ex m) (z : m = some d) : DX X e ρ ex ρ (.dat d) := h d z
theorem OM.dx {m : Option (List PyData)} {ds : List PyData} (h : OM X e ρ ex m) (z : m = some ds) : DX X e ρ ex ρ (.ml ds) := h ds z
theorem OT.dt {m : Option Bool} {b : Bool} (h : OT X e ρ ex m) (z : m = some b) : DT X e ρ ex ρ b := h b z
end
section
variable {X : Cx} {e : En} {ρ ρ1 ρ2 : Rho} {pos apos xp p : Pos} {k : Kd} {x m f : Str} {ps : List Str} {lv : Nat} {rel : Rel} {C : Addr} {ns : List Str} {ks : List Kd}
/-- len(x), x an instance -/
theorem dx_lenO (i : Nat) {n : Int} {k2 : Kd} (G : Mth X.prog X.w X.K X.mg X.base C "__len__" ps lv rel) (hr : Room (lv + 1) X.A) (hml : X.mg "len" = none) (hrel : rel [.ob C ns ks] [k2] (.ret (.dat (.int n)))) (hn : 0 ≤ n ∧ n < 2 ^ 63) (hρ : ρ[i]? = some (some (.ob C ns ks)) := by rfl)
    (hN : X.N[i]? = some x := by rfl) (hv : Vis X.env.scope x := by first | exact Or.inl rfl | exact Or.inr (Or.inl rfl) | exact Or.inr (Or.inr rfl)) (hd : (x == ("__debug__" : Str)) = false := by decide) (hcd : (x == ("__classdict__" : Str)) = false := by decide)
    (hg : Gl X "len" := by rfl) (he : starEach [.Name x xp] X.env = (false, eval (.Name x xp) X.env) :: starEach [] X.env := by rfl) : DX X e ρ (.Call (.Name "len" p) [.Name x xp] [] pos) (ρ.set i (some k2)) (.dat (.int n)) := by
  obtain ⟨g, fd, F, hmt, hb⟩ := G.ex
  refine PE.mono (pe_callB (call_lenO hmt F hb hr) hg hml PySem.boot_len (pa_cons (pe_var hN hv hd hcd) pa_nil he) (by decide) (by decide) he (by rfl)) fun σ H Q ⟨S, stk, cv, o, q⟩ => ?_
  obtain ⟨v, e1, o1, _⟩ := o.focus cv hρ
  obtain ⟨fp, hf⟩ := o1.ho
  simp only [Ho] at hf
  obtain ⟨a, dx, us, f', rfl, _, hx, _, hl, _⟩ := hf
  refine ⟨.ref a, e1, a, dx, _, rfl, hx, meth_sp (ds := []) (vs := []) e1 cv (by exact o) rfl hρ hrel fun w H' S' c' o' => ?_⟩
  have hw := o'.dat
  simp only [Da] at hw
  subst hw
  exact ⟨n, rfl, hn, q _ H' S' c' o'⟩
/-- len(x), x an instance that stays as it is -/
theorem dx_lenS (i : Nat) {n : Int} (G : Mth X.prog X.w X.K X.mg X.base C "__len__" ps lv rel) (hr : Room (lv + 1) X.A) (hml : X.mg "len" = none) (hrel : rel [.ob C ns ks] [.ob C ns ks] (.ret (.dat (.int n)))) (hn : 0 ≤ n ∧ n < 2 ^ 63) (hρ : ρ[i]? = some (some (.ob C ns ks)) := by rfl)
    (hN : X.N[i]? = some x := by rfl) (hv : Vis X.env.scope x := by first | exact Or.inl rfl | exact Or.inr (Or.inl rfl) | exact Or.inr (Or.inr rfl)) (hd : (x == ("__debug__" : Str)) = false := by decide) (hcd : (x == ("__classdict__" : Str)) = false := by decide)
    (hg : Gl X "len" := by rfl) (he : starEach [.Name x xp] X.env = (false, eval (.Name x xp) X.env) :: starEach [] X.env := by rfl) : DX X e ρ (.Call (.Name "len" p) [.Name x xp] [] pos) ρ (.dat (.int n)) := by
  have h := dx_lenO (e := e) (pos := pos) (p := p) (xp := xp) i G hr hml hrel hn hρ hN hv hd hcd hg he
  rwa [set_same hρ] at h
/-- x.m(), the instance stays as it is -/
theorem dx_meth0S {pl : Sem Bool} (i : Nat) (c : Cls X.K C) (G : Mth X.prog X.w X.K X.mg X.base C m ps lv rel) (hr : Room lv X.A) (hrel : rel [.ob C ns ks] [.ob C ns ks] (.ret k)) (hρ : ρ[i]? = some (some (.ob C ns ks)) := by rfl) (hm : m ∉ ns := by decide) (hN : X.N[i]? = some x := by rfl) (hv : Vis X.env.scope x := by first | exact Or.inl rfl | exact Or.inr (Or.inl rfl) | exact Or.inr (Or.inr rfl)) (hd : (x == ("__debug__" : Str)) = false := by decide) (hcd : (x == ("__classdict__" : Str)) = false := by decide)
    (ht : eval (.Call (.Attribute (.Name x xp) m apos) [] [] pos) X.env = (do
      let ov ← eval (.Name x xp) X.env
      standAt apos.atName
      let (f, first) ← holding [ov] (getMethod ov m pl)
      callWith pos f first (backTo pos (starEach [] X.env)) (backToKw pos (keywordEach [] X.env))) := by rfl) :
    DX X e ρ (.Call (.Attribute (.Name x xp) m apos) [] [] pos) ρ k := by
  have h := dx_meth0 (e := e) (pos := pos) (apos := apos) (xp := xp) (pl := pl) i c G hr hrel hρ hm hN hv hd hcd ht
  rwa [set_same hρ] at h
variable {ds : List PyData} {ns' : List Str} {ks0 : List Kd} {ea : Expr} {es : List Expr}
/-- x.m(e, ..), the instance stays as it is -/
theorem dx_methS {pl : Sem Bool} (i : Nat) (c : Cls X.K C) (G : Mth X.prog X.w X.K X.mg X.base C m ps lv rel) (hr : Room lv X.A) (ha : DA X e ρ (ea :: es) ρ1 (pus ds)) (hrel : rel (.ob C ns' ks :: ds.map .dat) (.ob C ns' ks :: ds.map .dat) (.ret k)) (hρ : ρ[i]? = some (some (.ob C ns ks0)) := by rfl) (hρ1 : ρ1[i]? = some (some (.ob C ns' ks)) := by rfl) (hm : m ∉ ns := by decide) (hN : X.N[i]? = some x := by rfl) (hv : Vis X.env.scope x := by first | exact Or.inl rfl | exact Or.inr (Or.inl rfl) | exact Or.inr (Or.inr rfl)) (hd : (x == ("__debug__" : Str)) = false := by decide) (hcd : (x == ("__classdict__" : Str)) = false := by decide)
    (hst : starEach (ea :: es) X.env = (false, eval ea X.env) :: starEach es X.env := by rfl) (hpl : (backTo pos (starEach es X.env)).any (·.1) = false := by rfl)
    (ht : eval (.Call (.Attribute (.Name x xp) m apos) (ea :: es) [] pos) X.env = (do
      let ov ← eval (.Name x xp) X.env
      standAt apos.atName
      let (f, first) ← holding [ov] (getMethod ov m pl)
      callWith pos f first (backTo pos (starEach (ea :: es) X.env)) (backToKw pos (keywordEach [] X.env))) := by rfl) :
    DX X e ρ (.Call (.Attribute (.Name x xp) m apos) (ea :: es) [] pos) ρ1 k := by
  have h := dx_meth (pos := pos) (apos := apos) (xp := xp) (pl := pl) i c G hr ha hrel hρ hρ1 hm hN hv hd hcd hst hpl ht
  rwa [set_same hρ1] at h
end
end Ov
set_option Elab.async false
set_option linter.all false
set_option maxRecDepth 100000
set_option maxHeartbeats 1000000
namespace Ov
open PySem PySem.Spec PyProof.Rows L2
/-! ### isinstance -/
def typD : PyData → String
  | .none => "NoneType"
  | .bool _ => "bool"
  | .int _ => "int"
  | .str _ => "str"
  | .list _ => "list"
  | .tuple _ => "tuple"
  | .dict _ => "dict"
theorem ty_of {K : PySem.W.Frag} {S H : Hp} (s : Same S H) : ∀ {d : PyData} {v : V}, Da K S d v → TyX K H v (.type (typD d))
  | .none, v, h => by simp only [Da] at h; subst h; exact .base .non
  | .bool b, v, h => by simp only [Da] at h; subst h; exact .base (.bl b)
  | .int i, v, h => by simp only [Da] at h; subst h; exact .base (.int i)
  | .str x, v, h => by simp only [Da] at h; subst h; exact .base (.str x)
  | .list ds, v, h => by
    obtain ⟨a, xs, rfl, e, _⟩ := mem_da.mp h
    exact .base (.lst (s _ _ e))
  | .tuple ds, v, h => by
    obtain ⟨a, xs, rfl, e, _⟩ := mem_dat.mp h
    rcases e with (e | ⟨o, e⟩) | e
    · exact .base (.tup (s _ _ e))
    · exact .fTuple (s _ _ e)
    · obtain ⟨o, its, n, e1, e2, _⟩ := e
      exact .kTuple e1 e2
  | .dict _, v, h => by simp only [Da] at h
section
variable {X : Cx} {e : En} {ρ ρ1 : Rho} {ea : Expr} {pos p q : Pos} {T : String} {b : Bool} {d : PyData}
theorem dx_isi {x : Str} (ha : DX X e ρ ea ρ1 (.dat d)) (hm : X.mg "isinstance" = none) (hT : X.mg x = none) (hb : bootBuiltins x = some (.type T)) (hk : kitB (typD d) T = some b) (hg : Gl X "isinstance" := by rfl) (hgT : Gl X x := by rfl) (hn : x ≠ "__name__" := by decide) (hd : (x == ("__debug__" : Str)) = false := by decide)
    (he : starEach [ea, .Name x q] X.env = (false, eval ea X.env) :: starEach [.Name x q] X.env := by rfl) (he2 : starEach [.Name x q] X.env = (false, eval (.Name x q) X.env) :: starEach [] X.env := by rfl) (hpl : (backTo pos (starEach [.Name x q] X.env)).any (·.1) = false := by rfl) :
    DX X e ρ (.Call (.Name "isinstance" p) [ea, .Name x q] [] pos) ρ1 (.dat (.bool b)) :=
  PE.mono (pe_callB call_isi hg hm PyProof.Rows.boot_isinstance (pa_cons ha (pa_cons (pe_bltn (v := .ty T) hgT hT hb rfl hn hd) pa_nil he2) he) (by decide) (by decide) he hpl) fun σ H Q ⟨S, stk, c, o, k⟩ => ⟨S, stk, c, o, fun v H1 S1 c1 o1 => ⟨v, .ty T, .type (typD d), .type T, b, rfl, .ty T, ty_of o1.same o1.dat, kit_ty hk, k (.bl b) H1 S1 c1 (o1.drop.push (by simp only [Da]))⟩⟩
theorem dx_isi2 {x y : Str} {T1 T2 : String} {b1 b2 : Bool} {kk : Nat} {q1 q2 tp : Pos} (ha : DX X e ρ ea ρ1 (.dat d)) (hm : X.mg "isinstance" = none) (hT1 : X.mg x = none) (hT2 : X.mg y = none) (hb1 : bootBuiltins x = some (.type T1)) (hb2 : bootBuiltins y = some (.type T2)) (hk1 : kitB (typD d) T1 = some b1) (hk2 : kitB (typD d) T2 = some b2) (hg : Gl X "isinstance" := by rfl) (hg1 : Gl X x := by rfl) (hg2 : Gl X y := by rfl)
    (hn1 : x ≠ "__name__" := by decide) (hd1 : (x == ("__debug__" : Str)) = false := by decide) (hn2 : y ≠ "__name__" := by decide) (hd2 : (y == ("__debug__" : Str)) = false := by decide)
    (he : starEach [ea, .Tuple [.Name x q1, .Name y q2] kk tp] X.env = (false, eval ea X.env) :: starEach [.Tuple [.Name x q1, .Name y q2] kk tp] X.env := by rfl) (he2 : starEach [.Tuple [.Name x q1, .Name y q2] kk tp] X.env = (false, eval (.Tuple [.Name x q1, .Name y q2] kk tp) X.env) :: starEach [] X.env := by rfl) (hpl : (backTo pos (starEach [.Tuple [.Name x q1, .Name y q2] kk tp] X.env)).any (·.1) = false := by rfl)
    (he3 : starEach [.Name x q1, .Name y q2] X.env = (false, eval (.Name x q1) X.env) :: starEach [.Name y q2] X.env := by rfl) (he4 : starEach [.Name y q2] X.env = (false, eval (.Name y q2) X.env) :: starEach [] X.env := by rfl) :
    DX X e ρ (.Call (.Name "isinstance" p) [ea, .Tuple [.Name x q1, .Name y q2] kk tp] [] pos) ρ1 (.dat (.bool (b1 || b2))) :=
  PE.mono (pe_callB call_isiT hg hm PyProof.Rows.boot_isinstance (pa_cons ha (pa_cons (pe_tup (pa_cons (pe_bltn (v := .ty T1) hg1 hT1 hb1 rfl hn1 hd1) (pa_cons (pe_bltn (v := .ty T2) hg2 hT2 hb2 rfl hn2 hd2) pa_nil he4) he3)) pa_nil he2) he) (by decide) (by decide) he hpl) fun σ H Q ⟨S, stk, c, o, k⟩ => ⟨S, stk, c, o, fun v H1 S1 c1 o1 => ⟨by show 2 ≤ sizeLine; rw [sizeLine_eq]; omega, fun a ha => by
    have o2 := o1.newS (o := .tup [.ty T1, .ty T2]) ha
    refine ⟨v, a, [.ty T1, .ty T2], .type (typD d), [.type T1, .type T2], b1 || b2, rfl, upd_same, .cons (.ty T1) (.cons (.ty T2) .nil), ty_of o2.same o2.dat, ?_, k (.bl (b1 || b2)) _ _ c1 (o2.drop.push (by simp only [Da]))⟩
    refine kitAny_cons (kit_ty hk1) (fun z => kitAny_cons (kit_ty hk2) (fun z2 => ?_) (fun z2 => ?_)) (fun z => ?_)
    · rw [z, z2]
      exact kitAny_nil
    · rw [z, z2]
      rfl
    · rw [z]
      rfl⟩⟩
end
end Ov
set_option Elab.async false
set_option linter.all false
set_option maxRecDepth 100000
set_option maxHeartbeats 1000000
namespace Ov
open PySem PySem.Spec PyProof.Rows L2
def isL : PyData → Bool
  | .list _ => true
  | _ => false
def isT : PyData → Bool
  | .tuple _ => true
  | _ => false
def isB : PyData → Bool
  | .bool _ => true
  | _ => false
def isS : PyData → Bool
  | .str _ => true
  | _ => false
def isI : PyData → Bool
  | .bool _ => true
  | .int _ => true
  | _ => false
theorem kit_L : ∀ d : PyData, kitB (typD d) "list" = some (isL d)
  | .none => (by decide +kernel : kitB "NoneType" "list" = some false)
  | .bool _ => (by decide +kernel : kitB "bool" "list" = some false)
  | .int _ => (by decide +kernel : kitB "int" "list" = some false)
  | .str _ => (by decide +kernel : kitB "str" "list" = some false)
  | .list _ => (by decide +kernel : kitB "list" "list" = some true)
  | .tuple _ => (by decide +kernel : kitB "tuple" "list" = some false)
  | .dict _ => (by decide +kernel : kitB "dict" "list" = some false)
theorem kit_T : ∀ d : PyData, kitB (typD d) "tuple" = some (isT d)
  | .none => (by decide +kernel : kitB "NoneType" "tuple" = some false)
  | .bool _ => (by decide +kernel : kitB "bool" "tuple" = some false)
  | .int _ => (by decide +kernel : kitB "int" "tuple" = some false)
  | .str _ => (by decide +kernel : kitB "str" "tuple" = some false)
  | .list _ => (by decide +kernel : kitB "list" "tuple" = some false)
  | .tuple _ => (by decide +kernel : kitB "tuple" "tuple" = some true)
  | .dict _ => (by decide +kernel : kitB "dict" "tuple" = some false)
theorem kit_B : ∀ d : PyData, kitB (typD d) "bool" = some (isB d)
  | .none => (by decide +kernel : kitB "NoneType" "bool" = some false)
  | .bool _ => (by decide +kernel : kitB "bool" "bool" = some true)
  | .int _ => (by decide +kernel : kitB "int" "bool" = some false)
  | .str _ => (by decide +kernel : kitB "str" "bool" = some false)
  | .list _ => (by decide +kernel : kitB "list" "bool" = some false)
  | .tuple _ => (by decide +kernel : kitB "tuple" "bool" = some false)
  | .dict _ => (by decide +kernel : kitB "dict" "bool" = some false)
theorem kit_S : ∀ d : PyData, kitB (typD d) "str" = some (isS d)
  | .none => (by decide +kernel : kitB "NoneType" "str" = some false)
  | .bool _ => (by decide +kernel : kitB "bool" "str" = some false)
  | .int _ => (by decide +kernel : kitB "int" "str" = some false)
  | .str _ => (by decide +kernel : kitB "str" "str" = some true)
  | .list _ => (by decide +kernel : kitB "list" "str" = some false)
  | .tuple _ => (by decide +kernel : kitB "tuple" "str" = some false)
  | .dict _ => (by decide +kernel : kitB "dict" "str" = some false)
theorem kit_I : ∀ d : PyData, kitB (typD d) "int" = some (isI d)
  | .none => (by decide +kernel : kitB "NoneType" "int" = some false)
  | .bool _ => (by decide +kernel : kitB "bool" "int" = some true)
  | .int _ => (by decide +kernel : kitB "int" "int" = some true)
  | .str _ => (by decide +kernel : kitB "str" "int" = some false)
  | .list _ => (by decide +kernel : kitB "list" "int" = some false)
  | .tuple _ => (by decide +kernel : kitB "tuple" "int" = some false)
  | .dict _ => (by decide +kernel : kitB "dict" "int" = some false)
section
variable {X : Cx} {e : En} {ρ : Rho} {ea : Expr} {pos p q : Pos} {T : String} {lv : Nat} {ma : OP}
theorem ox_isi {x : Str} {f : PyData → Bool} (hf : ∀ d, kitB (typD d) T = some (f d)) (hb : bootBuiltins x = some (.type T)) (am : Am X lv) (ha : OX X e ρ ea ma) (hx : x ∈ blts := by decide) (hg : Gl X "isinstance" := by rfl) (hgT : Gl X x := by rfl) (hn : x ≠ "__name__" := by decide) (hd : (x == ("__debug__" : Str)) = false := by decide)
    (he : starEach [ea, .Name x q] X.env = (false, eval ea X.env) :: starEach [.Name x q] X.env := by rfl) (he2 : starEach [.Name x q] X.env = (false, eval (.Name x q) X.env) :: starEach [] X.env := by rfl) (hpl : (backTo pos (starEach [.Name x q] X.env)).any (·.1) = false := by rfl) :
    OX X e ρ (.Call (.Name "isinstance" p) [ea, .Name x q] [] pos) (ma.map fun a => .bool (f a)) := fun d z => by
  obtain ⟨a, h1, rfl⟩ := om z
  exact dx_isi (ha a h1) (am.bl _ (by decide)) (am.bl _ hx) hb (hf a) hg hgT hn hd he he2 hpl
theorem ox_isi2 {x y : Str} {T1 T2 : String} {kk : Nat} {q1 q2 tp : Pos} {f g : PyData → Bool} (hf : ∀ d, kitB (typD d) T1 = some (f d)) (hg : ∀ d, kitB (typD d) T2 = some (g d)) (hb1 : bootBuiltins x = some (.type T1)) (hb2 : bootBuiltins y = some (.type T2)) (am : Am X lv) (ha : OX X e ρ ea ma) (hx : x ∈ blts := by decide) (hy : y ∈ blts := by decide)
    (hgi : Gl X "isinstance" := by rfl) (hg1 : Gl X x := by rfl) (hg2 : Gl X y := by rfl) (hn1 : x ≠ "__name__" := by decide) (hd1 : (x == ("__debug__" : Str)) = false := by decide) (hn2 : y ≠ "__name__" := by decide) (hd2 : (y == ("__debug__" : Str)) = false := by decide)
    (he : starEach [ea, .Tuple [.Name x q1, .Name y q2] kk tp] X.env = (false, eval ea X.env) :: starEach [.Tuple [.Name x q1, .Name y q2] kk tp] X.env := by rfl) (he2 : starEach [.Tuple [.Name x q1, .Name y q2] kk tp] X.env = (false, eval (.Tuple [.Name x q1, .Name y q2] kk tp) X.env) :: starEach [] X.env := by rfl) (hpl : (backTo pos (starEach [.Tuple [.Name x q1, .Name y q2] kk tp] X.env)).any (·.1) = false := by rfl)
    (he3 : starEach [.Name x q1, .Name y q2] X.env = (false, eval (.Name x q1) X.env) :: starEach [.Name y q2] X.env := by rfl) (he4 : starEach [.Name y q2] X.env = (false, eval (.Name y q2) X.env) :: starEach [] X.env := by rfl) :
    OX X e ρ (.Call (.Name "isinstance" p) [ea, .Tuple [.Name x q1, .Name y q2] kk tp] [] pos) (ma.map fun a => .bool (f a || g a)) := fun d z => by
  obtain ⟨a, h1, rfl⟩ := om z
  exact dx_isi2 (ha a h1) (am.bl _ (by decide)) (am.bl _ hx) (am.bl _ hy) hb1 hb2 (hf a) (hg a) hgi hg1 hg2 hn1 hd1 hn2 hd2 he he2 hpl he3 he4
end
end Ov
set_option Elab.async false
set_option linter.all false
set_option maxRecDepth 100000
set_option maxHeartbeats 1000000
namespace Ov
open PySem PySem.Spec PyProof.Rows L2
/-! ### defs with defaults, all written -/
/-- a def keeps its promise, by its body -/
theorem ok_ofD {P : Program} {w : World} {K : PySem.W.Frag} {mg : Str → Option Value} {base : Heap} {x qual : Str} {params : Arguments} {bdy : List Stmt} {scope : Scope} {dvs : List V} {kws : List (Str × V)} {f : Addr} {fd : FuncData} {N ps : List Str} {k : Nat} {rel : Rel} (F : FunD K x qual params bdy scope dvs kws f fd) (Sc : FnScope N ps scope)
    (hrel : ∀ ks ks' r, rel ks ks' r → ks.length = ps.length ∧ keepD ks ks')
    (body : ∀ (cdv : Value) (A : Around) (outer : List Env) (s : Shared) (H : Hp) (E : XK), Room k (A.deeper (envOfC qual scope s.heap.objs.size f cdv)) → ∀ (e : En) (vs : List V) (ks ks' : List Kd) (r : Res), rel ks ks' r →
      DSs (cxOf (L2.CX P w) P w K mg base N qual scope f cdv A outer s H E) e (pinOf 0 ks, vs) (fun cls d _ H => E cls d H) (rho0 N ks) bdy (goal (pinOf 0 ks) ks' r)) :
    FnOk P w K mg base (L2.CX P w) (k + 1) f fd ps (spG K rel) := by
  refine F.ok Sc (fun vs H Q E h => ?_) (fun cdv A outer s H vs Q E hr h => ?_)
  · obtain ⟨S, ks, ks', r, fp, hr, h1, _⟩ := h
    rw [← h1]
    exact (hrel ks ks' r hr).1
  · obtain ⟨S, ks, ks', r, fp, hre, h1, h2, hsl, o, q⟩ := h
    obtain ⟨h3, hkd⟩ := hrel ks ks' r hre
    obtain ⟨c0, e0⟩ := ents_start ks vs (N.length - ks.length) h1
    have hst : L2.start N vs = vs.map some ++ List.replicate (N.length - ks.length) none := by
      unfold L2.start
      rw [h1]
    refine ⟨_, body cdv A outer s H E hr ⟨less H fp, S⟩ vs ks ks' r hre, S, [], by rw [hst]; exact c0, fun i hi => ?_, by rw [hst]; unfold rho0; rw [e0]; exact o, ?_⟩
    · rw [hst]
      have hi2 : i < vs.length := by
        rw [← h1]
        have g : ∀ (ks : List Kd) (m : Nat), i ∈ pinOf m ks → i < m + ks.length := by
          intro ks
          induction ks with
          | nil => intro m h; cases h
          | cons k ks ih =>
            intro m h
            unfold pinOf at h
            rw [List.length_cons]
            split at h
            · have := ih _ h; omega
            · rcases List.mem_cons.mp h with rfl | h
              · omega
              · have := ih _ h; omega
        have := g ks 0 hi
        omega
      rw [List.getElem?_append_left (by simpa using hi2), List.getElem?_map]
    · have data : ∀ (i : Nat) (d : PyData) (v : V), ks[i]? = some (.dat d) → vs[i]? = some v → Da K S d v := by
        have g : ∀ (ks : List Kd) (vs : List V) (L : En2), Os K ⟨less H fp, S⟩ (ks.zip vs ++ L) H S → ∀ (i : Nat) (d : PyData) (v : V), ks[i]? = some (.dat d) → vs[i]? = some v → Da K S d v := by
          intro ks
          induction ks with
          | nil => intro vs L o i d v a b; simp at a
          | cons k ks ih =>
            intro vs L o i d v a b
            cases vs with
            | nil => simp at b
            | cons u vs =>
              cases i with
              | zero =>
                simp at a b
                subst a b
                exact o.dat
              | succ i => exact ih vs L o.drop i d v (by simpa using a) (by simpa using b)
        intro i d v a b
        exact g ks vs [] (by simpa using o) i d v a b
      have done : ∀ (ρ : Rho) (σ : L2.St) (L : En2) (H' S' : Hp), fin (pinOf 0 ks) ks' ρ → Pin (pinOf 0 ks, vs) σ → Os K ⟨less H fp, S⟩ (L ++ ents ρ σ) H' S' → Os K ⟨less H fp, S⟩ (L ++ ks'.zip vs) H' S' := fun ρ σ L H' S' a b o' =>
        asm (S0 := S) ks ks' vs 0 ρ σ L H' S' h1 hkd (fun i hi => ⟨Nat.zero_le _, a i hi, b i hi⟩) data o'.oldS o'
      cases r with
      | ret kr =>
        refine ⟨fun ρ σ H' S' z c pi o' => ?_, fun ρ σ H' S' z => z.elim, fun ρ σ H' S' z => z.elim, fun k0 ρ v σ H' S' z c pi o' => ?_, fun _ _ _ _ _ _ _ z => z.elim⟩
        · obtain ⟨rfl, z⟩ := z
          exact q .non H' S' ((done ρ σ [] H' S' z pi o').push (by simp only [Da]))
        · obtain ⟨rfl, z⟩ := z
          exact q v H' S' (done ρ σ [(k0, v)] H' S' z pi o')
      | exc C fs =>
        refine ⟨fun ρ σ H' S' z => z.elim, fun ρ σ H' S' z => z.elim, fun ρ σ H' S' z => z.elim, fun k0 ρ v σ H' S' z => z.elim, fun C' fs' d ρ σ H' S' z c pi x o' => ?_⟩
        obtain ⟨rfl, rfl, z⟩ := z
        exact q d H' S' x (done ρ σ [] H' S' z pi o')
theorem Ini.ofD {PP : Program} {w : World} {K : PySem.W.Frag} {mg : Str → Option Value} {base : Heap} {C fa : Addr} {fd : FuncData} {m qual : Str} {params : Arguments} {bdy : List Stmt} {scope : Scope} {dvs : List V} {kws : List (Str × V)} {N ps : List Str} {kk : Nat} {rel : Rel} (F : FunD K m qual params bdy scope dvs kws fa fd) (Sc : FnScope N ps scope) (hm : Mk K C fa) (hb : Binds K fd ps [])
    (hrel : ∀ ks ks' r, rel ks ks' r → ks.length = ps.length ∧ keepD ks ks')
    (body : ∀ (cdv : Value) (A : Around) (outer : List Env) (s : Shared) (H : Hp) (E : XK), Room kk (A.deeper (envOfC qual scope s.heap.objs.size fa cdv)) → ∀ (e : En) (vs : List V) (ks ks' : List Kd) (r : Res), rel ks ks' r →
      DSs (cxOf (L2.CX PP w) PP w K mg base N qual scope fa cdv A outer s H E) e (pinOf 0 ks, vs) (fun cls d _ H => E cls d H) (rho0 N ks) bdy (goal (pinOf 0 ks) ks' r)) :
    Ini PP w K mg base C ps (kk + 1) rel := ⟨fa, fd, ok_ofD F Sc hrel body, hm, hb⟩
/-- one default, and it is an empty tuple at T -/
theorem funD_mk {K : PySem.W.Frag} {x qual : Str} {params : Arguments} {bdy : List Stmt} {scope : Scope} {f T a : Addr} {oc oT : Value} {od odT an : Option Addr} {osl slT : Array (Option Value)} {kV doc pm cdv ct : Value} {n : Nat} (l : K.lookup f = some ⟨oc, od, .func (PySem.W.fnOf x qual params bdy scope (.ref T) kV doc pm an cdv ct), osl⟩)
    (t : K.lookup T = some ⟨oT, odT, .seq #[.ref a] n, slT⟩) (c : PySem.W.codeIn K cdv qual = true) (k : PySem.W.keepIn K (.ref f) = true) : FunD K x qual params bdy scope [.ref a] [] f (PySem.W.fnOf x qual params bdy scope (.ref T) kV doc pm an cdv ct) :=
  ⟨⟨oc, od, .ref T, kV, doc, pm, an, cdv, ct, osl, rfl, l, c, .inr ⟨by simp, T, _, [.ref a], n, rfl, t, rfl, .cons rfl .nil⟩, .inl rfl⟩, k⟩
end Ov
set_option Elab.async false
set_option linter.all false
set_option maxRecDepth 100000
set_option maxHeartbeats 4000000
namespace Ov
open PySem PySem.Spec PyProof.Rows L2
def top (i : Nat) : Stmt := PySem.Challenge.pw_overlooks_k90_main_lots_by_where_the_sho.main.body.getD i (.Pass ⟨0, 0, 0, 0⟩)
section
variable {P : Program} {w : World} {K : PySem.W.Frag} {mg : Str → Option Value} {base : Heap} {f : Addr} {fd : FuncData}
def b_place_of (v_row v_height : PyData) : Option (Fl Unit Unit Unit) := (Option.bind (Option.map (!·) (Option.bind (some v_height) fun a1 => Option.bind (some v_row) fun b2 => pIn a1 b2)) fun a3 => bif a3 then none else (Option.map (fun v => Fl.rt v ()) (Option.bind (Option.map PyData.list (Option.bind (some v_row) pIt)) fun a4 => Option.bind (some v_height) fun b5 => pIndex a4 b5)))
def f_place_of (v_row v_height : PyData) : OP := finF (b_place_of v_row v_height)
theorem fn_place_of {x : Str} (F : Fun K "place_of" "place_of" (top 12) f fd) (hm : mg x = some (.ref f)) (hb : Binds K fd ["row", "height"] []) (hbl : ∀ x ∈ blts, mg x = none) : Fn P w K mg base x ["row", "height"] 2 (rel2 f_place_of) := by
  refine Fn.of2 (k := 0) (N := ["row", "height"]) (eN := fun _ => [none, none]) (mB := b_place_of) F ⟨rfl, rfl, rfl, by decide +kernel, rfl, by decide +kernel, by decide +kernel⟩ hm hb hbl (by decide) rfl (fun _ _ => rfl) ?_
  intro cdv A outer s H E am e vs v_row v_height
  unfold b_place_of
  exact (oss_ifN (ot_notIn am (ox_var 1) (ox_var 0)) (oss_ret (ox_index am (ox_fz (ox_list am (ox_var 0))) (ox_var 1)) trivial))
def b_look_same (v_one v_other : PyData) : Option (Fl Unit Unit Unit) := (Option.bind (Option.map (!·) (Option.bind (Option.map PyData.list (Option.bind (some v_one) pSort)) fun a1 => Option.bind (Option.map PyData.list (Option.bind (some v_other) pSort)) fun b2 => pEq a1 b2)) fun a3 => bif a3 then none else (some (Fl.nx ())))
def f_look_same (v_one v_other : PyData) : OP := finF (b_look_same v_one v_other)
theorem fn_look_same {x : Str} (F : Fun K "look_same" "look_same" (top 13) f fd) (hm : mg x = some (.ref f)) (hb : Binds K fd ["one", "other"] []) (hbl : ∀ x ∈ blts, mg x = none) : Fn P w K mg base x ["one", "other"] 2 (rel2 f_look_same) := by
  refine Fn.of2 (k := 0) (N := ["one", "other"]) (eN := fun _ => [none, none]) (mB := b_look_same) F ⟨rfl, rfl, rfl, by decide +kernel, rfl, by decide +kernel, by decide +kernel⟩ hm hb hbl (by decide) rfl (fun _ _ => rfl) ?_
  intro cdv A outer s H E am e vs v_one v_other
  unfold b_look_same
  exact (oss_ifN (ot_ne am (ox_fz (om_sort am (ox_var 0))) (ox_fz (om_sort am (ox_var 1)))) (oss_nil [0, 1]))
def b_ranks (v_row : PyData) : Option (Fl Unit Unit Unit) := (Option.bind (Option.map PyData.list (Option.bind (some v_row) pSort)) fun v_order => (Option.map (fun v => Fl.rt v ()) (Option.bind (Option.map PyData.list (Option.bind (Option.bind (some v_row) pIt) (compF some (fun (t1 : PyData) => (some true)) (fun (t1 : PyData) => (Option.bind (Option.bind (some v_order) fun a2 => Option.bind (some t1) fun b3 => pIndex a2 b3) fun a4 => Option.bind (some (PyData.int 1)) fun b5 => pAdd a4 b5))))) pTup)))
def f_ranks (v_row : PyData) : OP := finF (b_ranks v_row)
theorem fn_ranks {x : Str} (F : Fun K "ranks" "ranks" (top 14) f fd) (hm : mg x = some (.ref f)) (hb : Binds K fd ["row"] []) (hbl : ∀ x ∈ blts, mg x = none) : Fn P w K mg base x ["row"] 2 (rel1 f_ranks) := by
  refine Fn.of1 (k := 0) (N := ["row", "order", "height"]) (eN := fun _ => [none, none, none]) (mB := b_ranks) F ⟨rfl, rfl, rfl, by decide +kernel, rfl, by decide +kernel, by decide +kernel⟩ hm hb hbl (by decide) rfl (fun _ => rfl) ?_
  intro cdv A outer s H E am e vs v_row
  unfold b_ranks
  exact (oss_let am 1 (ox_fz (om_sort am (ox_var 0))) (fun v_order => (oss_ret (ox_tuple am (ox_fz (om_lc (own := [("height", 2)]) am (fun (t1 : PyData) => [some (.dat v_row), some (.dat v_order), some (.dat t1)]) [2] (oi_x am (ox_var 0)) (blkOk_by (by rfl)) (fun s H C cl fp am => (og_name 2 am)) (fun s H C cl fp t1 am => ots_nil) (fun s H C cl fp t1 am => (ox_add (ox_index am (ox_var 1) (ox_var 2)) ox_int))))) trivial)))
def b_with_person (v_row v_place v_height : PyData) : Option (Fl Unit Unit Unit) := (Option.bind (Option.map (!·) (Option.bind (some (PyData.int 0)) fun a => Option.bind (some v_place) fun b => Option.bind (Option.bind (some v_row) pLen) fun c => pCh pLe pLe a b c)) fun a1 => bif a1 then none else (Option.bind (Option.bind (some v_height) fun a2 => Option.bind (some v_row) fun b3 => pIn a2 b3) fun a4 => bif a4 then none else (Option.map (fun v => Fl.rt v ()) (Option.bind (Option.bind (Option.bind (Option.bind (some v_row) fun a => Option.bind (some none) fun i => Option.bind (Option.map some (Option.bind (some v_place) pInt)) fun j => pSl a i j) pTup) fun a6 => Option.bind (Option.map (fun a5 => PyData.tuple [a5]) (some v_height)) fun b7 => pAdd a6 b7) fun a8 => Option.bind (Option.bind (Option.bind (some v_row) fun a => Option.bind (Option.map some (Option.bind (some v_place) pInt)) fun i => Option.bind (some none) fun j => pSl a i j) pTup) fun b9 => pAdd a8 b9))))
def f_with_person (v_row v_place v_height : PyData) : OP := finF (b_with_person v_row v_place v_height)
theorem fn_with_person {x : Str} (F : Fun K "with_person" "with_person" (top 16) f fd) (hm : mg x = some (.ref f)) (hb : Binds K fd ["row", "place", "height"] []) (hbl : ∀ x ∈ blts, mg x = none) : Fn P w K mg base x ["row", "place", "height"] 2 (rel3 f_with_person) := by
  refine Fn.of3 (k := 0) (N := ["row", "place", "height"]) (eN := fun _ => [none, none, none]) (mB := b_with_person) F ⟨rfl, rfl, rfl, by decide +kernel, rfl, by decide +kernel, by decide +kernel⟩ hm hb hbl (by decide) rfl (fun _ _ _ => rfl) ?_
  intro cdv A outer s H E am e vs v_row v_place v_height
  unfold b_with_person
  exact (oss_ifN (ot_not (ot_chain (fun i j => decide (i ≤ j)) (fun i j => decide (i ≤ j)) op_le op_le ch_le ch_le ox_int (ox_var 1) (ox_len am (ox_var 0)))) (oss_ifN (ot_in am (ox_var 2) (ox_var 0)) (oss_ret (ox_add (ox_add (ox_tuple am (ox_sl (ox_var 0) oq_no (oq_so (ox_var 1)))) (ox_tup1 (ox_var 2))) (ox_tuple am (ox_sl (ox_var 0) (oq_so (ox_var 1)) oq_no))) trivial)))
def b_without (v_row v_height : PyData) : Option (Fl Unit Unit Unit) := (Option.bind (Option.bind (some v_row) fun a1 => (Option.bind (some v_height) fun a2 => f_place_of a1 a2)) fun v_place => (Option.map (fun v => Fl.rt v ()) (Option.bind (Option.bind (Option.bind (some v_row) fun a => Option.bind (some none) fun i => Option.bind (Option.map some (Option.bind (some v_place) pInt)) fun j => pSl a i j) pTup) fun a5 => Option.bind (Option.bind (Option.bind (some v_row) fun a => Option.bind (Option.map some (Option.bind (Option.bind (some v_place) fun a3 => Option.bind (some (PyData.int 1)) fun b4 => pAdd a3 b4) pInt)) fun i => Option.bind (some none) fun j => pSl a i j) pTup) fun b6 => pAdd a5 b6)))
def f_without (v_row v_height : PyData) : OP := finF (b_without v_row v_height)
theorem fn_without {x : Str} (g_place_of : Fn P w K mg base "place_of" ["row", "height"] 2 (rel2 f_place_of)) (F : Fun K "without" "without" (top 17) f fd) (hm : mg x = some (.ref f)) (hb : Binds K fd ["row", "height"] []) (hbl : ∀ x ∈ blts, mg x = none) : Fn P w K mg base x ["row", "height"] 3 (rel2 f_without) := by
  refine Fn.of2 (k := 1) (N := ["row", "height", "place"]) (eN := fun _ => [none, none, none]) (mB := b_without) F ⟨rfl, rfl, rfl, by decide +kernel, rfl, by decide +kernel, by decide +kernel⟩ hm hb hbl (by decide) rfl (fun _ _ => rfl) ?_
  intro cdv A outer s H E am e vs v_row v_height
  unfold b_without
  exact (oss_let am 2 (ox_call2 am g_place_of (by decide) (ox_var 0) (ox_var 1)) (fun v_place => (oss_ret (ox_add (ox_tuple am (ox_sl (ox_var 0) oq_no (oq_so (ox_var 2)))) (ox_tuple am (ox_sl (ox_var 0) (oq_so (ox_add (ox_var 2) ox_int)) oq_no))) trivial)))
def b_rest_row (v_row v_height : PyData) : Option (Fl Unit Unit Unit) := (Option.map (fun v => Fl.rt v ()) (Option.map PyData.list (Option.bind (Option.bind (some v_row) pIt) (compF some (fun (t1 : PyData) => (Option.bind (some t1) fun a2 => Option.bind (some v_height) fun b3 => pGe a2 b3)) (fun (t1 : PyData) => (some t1))))))
def f_rest_row (v_row v_height : PyData) : OP := finF (b_rest_row v_row v_height)
theorem fn_rest_row {x : Str} (F : Fun K "rest_row" "rest_row" (top 19) f fd) (hm : mg x = some (.ref f)) (hb : Binds K fd ["row", "height"] []) (hbl : ∀ x ∈ blts, mg x = none) : Fn P w K mg base x ["row", "height"] 2 (rel2 f_rest_row) := by
  refine Fn.of2 (k := 0) (N := ["row", "height", "other"]) (eN := fun _ => [none, none, none]) (mB := b_rest_row) F ⟨rfl, rfl, rfl, by decide +kernel, rfl, by decide +kernel, by decide +kernel⟩ hm hb hbl (by decide) rfl (fun _ _ => rfl) ?_
  intro cdv A outer s H E am e vs v_row v_height
  unfold b_rest_row
  exact (oss_ret (ox_fz (om_lc (own := [("other", 2)]) am (fun (t1 : PyData) => [some (.dat v_row), some (.dat v_height), some (.dat t1)]) [2] (oi_x am (ox_var 0)) (blkOk_by (by rfl)) (fun s H C cl fp am => (og_name 2 am)) (fun s H C cl fp t1 am => (ots_one (ot_ge (ox_var 2) (ox_var 1)))) (fun s H C cl fp t1 am => (ox_var 2)))) trivial)
def b_code_of (v_row v_height : PyData) : Option (Fl Unit Unit Unit) := (Option.map (fun v => Fl.rt v ()) (Option.bind (Option.bind (some v_row) fun a1 => (Option.bind (some v_height) fun a2 => f_rest_row a1 a2)) fun a3 => Option.bind (some v_height) fun b4 => pIndex a3 b4))
def f_code_of (v_row v_height : PyData) : OP := finF (b_code_of v_row v_height)
theorem fn_code_of {x : Str} (g_rest_row : Fn P w K mg base "rest_row" ["row", "height"] 2 (rel2 f_rest_row)) (F : Fun K "code_of" "code_of" (top 20) f fd) (hm : mg x = some (.ref f)) (hb : Binds K fd ["row", "height"] []) (hbl : ∀ x ∈ blts, mg x = none) : Fn P w K mg base x ["row", "height"] 3 (rel2 f_code_of) := by
  refine Fn.of2 (k := 1) (N := ["row", "height"]) (eN := fun _ => [none, none]) (mB := b_code_of) F ⟨rfl, rfl, rfl, by decide +kernel, rfl, by decide +kernel, by decide +kernel⟩ hm hb hbl (by decide) rfl (fun _ _ => rfl) ?_
  intro cdv A outer s H E am e vs v_row v_height
  unfold b_code_of
  exact (oss_ret (ox_index am (ox_call2 am g_rest_row (by decide) (ox_var 0) (ox_var 1)) (ox_var 1)) trivial)
def b_codes (v_row : PyData) : Option (Fl Unit Unit Unit) := (Option.map (fun v => Fl.rt v ()) (Option.bind (Option.map PyData.list (Option.bind (Option.bind (some v_row) pSort) (compF some (fun (t1 : PyData) => (some true)) (fun (t1 : PyData) => (Option.bind (some v_row) fun a2 => (Option.bind (some t1) fun a3 => f_code_of a2 a3)))))) pTup))
def f_codes (v_row : PyData) : OP := finF (b_codes v_row)
theorem fn_codes {x : Str} (g_code_of : Fn P w K mg base "code_of" ["row", "height"] 3 (rel2 f_code_of)) (F : Fun K "codes" "codes" (top 21) f fd) (hm : mg x = some (.ref f)) (hb : Binds K fd ["row"] []) (hbl : ∀ x ∈ blts, mg x = none) : Fn P w K mg base x ["row"] 4 (rel1 f_codes) := by
  refine Fn.of1 (k := 2) (N := ["row", "height"]) (eN := fun _ => [none, none]) (mB := b_codes) F ⟨rfl, rfl, rfl, by decide +kernel, rfl, by decide +kernel, by decide +kernel⟩ hm hb hbl (by decide) rfl (fun _ => rfl) ?_
  intro cdv A outer s H E am e vs v_row
  unfold b_codes
  exact (oss_ret (ox_tuple am (ox_fz (om_lc (own := [("height", 1)]) am (fun (t1 : PyData) => [some (.dat v_row), some (.dat t1)]) [1] (oi_m am (om_sort am (ox_var 0))) (blkOk_by (by rfl)) (fun s H C cl fp am => (og_name 1 am)) (fun s H C cl fp t1 am => ots_nil) (fun s H C cl fp t1 am => (ox_call2 am g_code_of (by decide) (ox_var 0) (ox_var 1)))))) trivial)
def b_row_with (v_row v_codes : PyData) : Option (Fl Unit Unit Unit) := (Option.bind (some []) fun v_found => (seqL (Option.bind (Option.bind (Option.bind (Option.map PyData.list (Option.bind (Option.map PyData.list (Option.bind (some v_row) pSort)) fun a2 => Option.bind (some v_codes) fun b3 => pZ2 a2 b3)) pRev) pIt) fun ds => loopF (unP some some) (fun (s1 : List PyData) (t4 : PyData × PyData) => (Option.bind (Option.bind (some t4.2) pInt) fun i5 => Option.bind (some t4.1) fun d6 => if (0 ≤ i5 ∧ i5 < 16777216) ∧ List.length s1 < 16777216 then (some (Fl.nx (List.take (Int.toNat i5) s1 ++ [d6] ++ List.drop (Int.toNat i5) s1))) else none)) ds v_found) fun (s1 : List PyData) => (Option.map (fun v => Fl.rt v ()) (Option.bind (some (PyData.list s1)) pTup))))
def f_row_with (v_row v_codes : PyData) : OP := finF (b_row_with v_row v_codes)
theorem fn_row_with {x : Str} (F : Fun K "row_with" "row_with" (top 23) f fd) (hm : mg x = some (.ref f)) (hb : Binds K fd ["row", "codes"] []) (hbl : ∀ x ∈ blts, mg x = none) : Fn P w K mg base x ["row", "codes"] 2 (rel2 f_row_with) := by
  refine Fn.of2 (k := 0) (N := ["row", "codes", "found", "height", "code"]) (eN := fun _ => [none, none, none, none, none]) (mB := b_row_with) F ⟨rfl, rfl, rfl, by decide +kernel, rfl, by decide +kernel, by decide +kernel⟩ hm hb hbl (by decide) rfl (fun _ _ => rfl) ?_
  intro cdv A outer s H E am e vs v_row v_codes
  unfold b_row_with
  exact (oss_letM am 2 om_lst0 (fun v_found => (oss_for (eL := (fun (s1 : List PyData) => [some (.dat v_row), some (.dat v_codes), some (.ml s1), none, none])) am v_found ([3] ++ ([4] ++ [])) (passes_of rfl) (oi_x am (ox_rev (ox_fz (om_lz2S am (ox_fz (om_sort am (ox_var 0))) (ox_var 1))))) (fun s1 => (og_2 am (og_name 3 am) (fun _ => (og_name 4 am)))) (fun s1 t4 => (oss_insert 2 (ox_var 4) (ox_var 3) (fun i5 d6 => (oss_nil [3, 4])))) (fun s1 => (oss_fz 2 (oss_ret (ox_tuple am (ox_var 2)) trivial))))))
def b_run_at (v_some v_index : PyData) : Option (Fl Unit Unit Unit) := (Option.map (fun v => Fl.rt v ()) (Option.bind (Option.map PyData.list (Option.bind (Option.bind (some v_some) pIt) (compF (unP some some) (fun (t1 : PyData × PyData) => (Option.bind (some t1.1) fun a => Option.bind (some v_index) fun b => Option.bind (some t1.2) fun c => pCh pLe pLe a b c)) (fun (t1 : PyData × PyData) => (Option.bind (some t1.1) fun a2 => (Option.map (fun a3 => PyData.tuple [a2, a3]) (some t1.2))))))) fun a4 => Option.bind (some (PyData.int 0)) fun b5 => pIx a4 b5))
def f_run_at (v_some v_index : PyData) : OP := finF (b_run_at v_some v_index)
theorem fn_run_at {x : Str} (F : Fun K "run_at" "run_at" (top 25) f fd) (hm : mg x = some (.ref f)) (hb : Binds K fd ["some", "index"] []) (hbl : ∀ x ∈ blts, mg x = none) : Fn P w K mg base x ["some", "index"] 2 (rel2 f_run_at) := by
  refine Fn.of2 (k := 0) (N := ["some", "index", "first", "last"]) (eN := fun _ => [none, none, none, none]) (mB := b_run_at) F ⟨rfl, rfl, rfl, by decide +kernel, rfl, by decide +kernel, by decide +kernel⟩ hm hb hbl (by decide) rfl (fun _ _ => rfl) ?_
  intro cdv A outer s H E am e vs v_some v_index
  unfold b_run_at
  exact (oss_ret (ox_ix (ox_fz (om_lc (own := [("first", 2), ("last", 3)]) am (fun (t1 : PyData × PyData) => [some (.dat v_some), some (.dat v_index), some (.dat t1.1), some (.dat t1.2)]) ([2] ++ ([3] ++ [])) (oi_x am (ox_var 0)) (blkOk_by (by rfl)) (fun s H C cl fp am => (og_2 am (og_name 2 am) (fun _ => (og_name 3 am)))) (fun s H C cl fp t1 am => (ots_one (ot_chain (fun i j => decide (i ≤ j)) (fun i j => decide (i ≤ j)) op_le op_le ch_le ch_le (ox_var 2) (ox_var 1) (ox_var 3)))) (fun s H C cl fp t1 am => (ox_tup2 (ox_var 2) (ox_var 3))))) ox_int) trivial)
def b_next_runs (v_some v_index : PyData) : Option (Fl Unit Unit Unit) := (Option.bind (Option.bind (some v_some) fun a3 => Option.bind (Option.bind (some v_some) fun a1 => (Option.bind (some v_index) fun a2 => f_run_at a1 a2)) fun b4 => pIndex a3 b4) fun v_place => (Option.bind (Option.bind (Option.bind (some v_some) fun a9 => Option.bind (Option.bind (some (PyData.int 0)) fun a7 => Option.bind (Option.bind (some v_place) fun a5 => Option.bind (some (PyData.int 1)) fun b6 => pSub a5 b6) fun b8 => pMax a7 b8) fun b10 => pIx a9 b10) fun a11 => Option.bind (some (PyData.int 0)) fun b12 => pIx a11 b12) fun v_first => (Option.bind (Option.bind (Option.bind (Option.bind (some v_some) fun a19 => Option.bind (Option.bind (Option.bind (Option.bind (some v_some) pLen) fun a13 => Option.bind (some (PyData.int 1)) fun b14 => pSub a13 b14) fun a17 => Option.bind (Option.bind (some v_place) fun a15 => Option.bind (some (PyData.int 1)) fun b16 => pAdd a15 b16) fun b18 => pMin a17 b18) fun b20 => pIx a19 b20) fun a21 => Option.bind (some (PyData.int 1)) fun b22 => pIx a21 b22) fun a23 => Option.bind (some (PyData.int 1)) fun b24 => pSub a23 b24) fun v_last => (Option.bind (Option.bind (Option.bind (Option.bind (some v_some) fun a => Option.bind (Option.map some (Option.bind (Option.bind (some v_place) fun a25 => Option.bind (some (PyData.int 2)) fun b26 => pAdd a25 b26) pInt)) fun i => Option.bind (some none) fun j => pSl a i j) pIt) (compF (unP some some) (fun (t27 : PyData × PyData) => (some true)) (fun (t27 : PyData × PyData) => (Option.bind (Option.bind (some t27.1) fun a28 => Option.bind (some (PyData.int 1)) fun b29 => pSub a28 b29) fun a32 => (Option.map (fun a33 => PyData.tuple [a32, a33]) (Option.bind (some t27.2) fun a30 => Option.bind (some (PyData.int 1)) fun b31 => pSub a30 b31)))))) fun v_later => (Option.map (fun v => Fl.rt v ()) (Option.bind (Option.bind (Option.bind (some v_some) fun a => Option.bind (some none) fun i => Option.bind (Option.map some (Option.bind (Option.bind (some (PyData.int 0)) fun a36 => Option.bind (Option.bind (some v_place) fun a34 => Option.bind (some (PyData.int 1)) fun b35 => pSub a34 b35) fun b37 => pMax a36 b37) pInt)) fun j => pSl a i j) fun a43 => Option.bind (Option.bind (Option.bind (some v_first) fun a38 => Option.bind (some v_last) fun b39 => pLe a38 b39) fun a42 => bif a42 then (Option.map PyData.list (Option.map (fun a => [a]) (Option.bind (some v_first) fun a40 => (Option.map (fun a41 => PyData.tuple [a40, a41]) (some v_last))))) else (Option.map PyData.list (some []))) fun b44 => pAdd a43 b44) fun a45 => Option.bind (some (PyData.list v_later)) fun b46 => pAdd a45 b46))))))
def f_next_runs (v_some v_index : PyData) : OP := finF (b_next_runs v_some v_index)
theorem fn_next_runs {x : Str} (g_run_at : Fn P w K mg base "run_at" ["some", "index"] 2 (rel2 f_run_at)) (F : Fun K "next_runs" "next_runs" (top 26) f fd) (hm : mg x = some (.ref f)) (hb : Binds K fd ["some", "index"] []) (hbl : ∀ x ∈ blts, mg x = none) : Fn P w K mg base x ["some", "index"] 3 (rel2 f_next_runs) := by
  refine Fn.of2 (k := 1) (N := ["some", "index", "place", "first", "last", "later", "low", "high"]) (eN := fun _ => [none, none, none, none, none, none, none, none]) (mB := b_next_runs) F ⟨rfl, rfl, rfl, by decide +kernel, rfl, by decide +kernel, by decide +kernel⟩ hm hb hbl (by decide) rfl (fun _ _ => rfl) ?_
  intro cdv A outer s H E am e vs v_some v_index
  unfold b_next_runs
  exact (oss_let am 2 (ox_index am (ox_var 0) (ox_call2 am g_run_at (by decide) (ox_var 0) (ox_var 1))) (fun v_place => (oss_par Kd.dat Kd.dat am 3 4 (ox_ix (ox_ix (ox_var 0) (ox_max2 am ox_int (ox_sub (ox_var 2) ox_int))) ox_int) (ox_sub (ox_ix (ox_ix (ox_var 0) (ox_min2 am (ox_sub (ox_len am (ox_var 0)) ox_int) (ox_add (ox_var 2) ox_int))) ox_int) ox_int) (fun v_first v_last => (oss_lc (own := [("low", 6), ("high", 7)]) am 5 (fun (t27 : PyData × PyData) => [some (.dat v_some), some (.dat v_index), some (.dat v_place), some (.dat v_first), some (.dat v_last), none, some (.dat t27.1), some (.dat t27.2)]) ([6] ++ ([7] ++ [])) (oi_x am (ox_sl (ox_var 0) (oq_so (ox_add (ox_var 2) ox_int)) oq_no)) (blkOk_by (by rfl)) (fun s H C cl fp am => (og_2 am (og_name 6 am) (fun _ => (og_name 7 am)))) (fun s H C cl fp t27 am => ots_nil) (fun s H C cl fp t27 am => (ox_tup2 (ox_sub (ox_var 6) ox_int) (ox_sub (ox_var 7) ox_int))) (fun v_later => (oss_fz 5 (oss_ret (ox_add (ox_add (ox_sl (ox_var 0) oq_no (oq_so (ox_max2 am ox_int (ox_sub (ox_var 2) ox_int)))) (ox_if (ot_le (ox_var 3) (ox_var 4)) (ox_fz (om_lst1 (ox_tup2 (ox_var 3) (ox_var 4)))) (ox_fz om_lst0))) (ox_var 5)) trivial))))))))
def b_all_lists (v_row : PyData) : Option (Fl Unit Unit Unit) := (Option.bind (Option.bind (Option.bind (Option.bind (some v_row) pLen) fun a1 => pRg (PyData.int 0) a1) (compF some (fun (t2 : PyData) => (some true)) (fun (t2 : PyData) => (Option.bind (some t2) fun a3 => (Option.map (fun a4 => PyData.tuple [a3, a4]) (some t2)))))) fun v_here => (Option.bind (some []) fun v_found => (seqL (Option.bind (Option.bind (some v_row) pSort) fun ds => loopF some (fun (s5 : PyData × List PyData) (t6 : PyData) => (Option.bind (some s5.1) fun d7 => if List.length s5.2 < 16777216 then (Option.bind (Option.bind (some s5.1) fun a10 => (Option.bind (Option.bind (some v_row) fun a8 => (Option.bind (some t6) fun a9 => f_code_of a8 a9)) fun a11 => f_next_runs a10 a11)) fun v_here => (some (Fl.nx (v_here, (s5.2 ++ [d7]))))) else none)) ds ((PyData.list v_here), v_found)) fun (s5 : PyData × List PyData) => (Option.map (fun v => Fl.rt v ()) (some (PyData.list s5.2))))))
def f_all_lists (v_row : PyData) : OP := finF (b_all_lists v_row)
theorem fn_all_lists {x : Str} (g_next_runs : Fn P w K mg base "next_runs" ["some", "index"] 3 (rel2 f_next_runs)) (g_code_of : Fn P w K mg base "code_of" ["row", "height"] 3 (rel2 f_code_of)) (F : Fun K "all_lists" "all_lists" (top 27) f fd) (hm : mg x = some (.ref f)) (hb : Binds K fd ["row"] []) (hbl : ∀ x ∈ blts, mg x = none) : Fn P w K mg base x ["row"] 4 (rel1 f_all_lists) := by
  refine Fn.of1 (k := 2) (N := ["row", "here", "found", "height", "index"]) (eN := fun _ => [none, none, none, none, none]) (mB := b_all_lists) F ⟨rfl, rfl, rfl, by decide +kernel, rfl, by decide +kernel, by decide +kernel⟩ hm hb hbl (by decide) rfl (fun _ => rfl) ?_
  intro cdv A outer s H E am e vs v_row
  unfold b_all_lists
  exact (oss_par Kd.ml Kd.ml am 1 2 (om_lc (own := [("index", 4)]) am (fun (t2 : PyData) => [some (.dat v_row), none, none, none, some (.dat t2)]) [4] (oi_rg1 am (ox_len am (ox_var 0))) (blkOk_by (by rfl)) (fun s H C cl fp am => (og_name 4 am)) (fun s H C cl fp t2 am => ots_nil) (fun s H C cl fp t2 am => (ox_tup2 (ox_var 4) (ox_var 4)))) om_lst0 (fun v_here v_found => (oss_fz 1 (oss_for (eL := (fun (s5 : PyData × List PyData) => [some (.dat v_row), some (.dat s5.1), some (.ml s5.2), none, none])) am ((PyData.list v_here), v_found) [3] (passes_of rfl) (oi_m am (om_sort am (ox_var 0))) (fun s5 => (og_name 3 am)) (fun s5 t6 => (oss_append 2 (ox_var 1) (fun d7 => (oss_let am 1 (ox_call2 am g_next_runs (by decide) (ox_var 1) (ox_call2 am g_code_of (by decide) (ox_var 0) (ox_var 3))) (fun v_here => (oss_nil [3])))))) (fun s5 => (oss_fz 2 (oss_ret (ox_var 2) trivial)))))))
def b_runs (v_row : PyData) : Option (Fl Unit Unit Unit) := (Option.bind (Option.bind (some v_row) f_all_lists) fun v_lists => (Option.map (fun v => Fl.rt v ()) (Option.bind (Option.map PyData.list (Option.bind (Option.bind (Option.map PyData.list (Option.bind (some v_row) pSort)) fun a2 => Option.bind (some v_lists) fun b3 => pZ2 a2 b3) (compF (unP some some) (fun (t4 : PyData × PyData) => (some true)) (fun (t4 : PyData × PyData) => (Option.bind (some t4.2) fun a7 => (Option.bind (Option.bind (some v_row) fun a5 => (Option.bind (some t4.1) fun a6 => f_code_of a5 a6)) fun a8 => f_run_at a7 a8)))))) pTup)))
def f_runs (v_row : PyData) : OP := finF (b_runs v_row)
theorem fn_runs {x : Str} (g_all_lists : Fn P w K mg base "all_lists" ["row"] 4 (rel1 f_all_lists)) (g_run_at : Fn P w K mg base "run_at" ["some", "index"] 2 (rel2 f_run_at)) (g_code_of : Fn P w K mg base "code_of" ["row", "height"] 3 (rel2 f_code_of)) (F : Fun K "runs" "runs" (top 28) f fd) (hm : mg x = some (.ref f)) (hb : Binds K fd ["row"] []) (hbl : ∀ x ∈ blts, mg x = none) : Fn P w K mg base x ["row"] 5 (rel1 f_runs) := by
  refine Fn.of1 (k := 3) (N := ["row", "lists", "height", "some"]) (eN := fun _ => [none, none, none, none]) (mB := b_runs) F ⟨rfl, rfl, rfl, by decide +kernel, rfl, by decide +kernel, by decide +kernel⟩ hm hb hbl (by decide) rfl (fun _ => rfl) ?_
  intro cdv A outer s H E am e vs v_row
  unfold b_runs
  exact (oss_let am 1 (ox_call1 am g_all_lists (by decide) (ox_var 0)) (fun v_lists => (oss_ret (ox_tuple am (ox_fz (om_lc (own := [("height", 2), ("some", 3)]) am (fun (t4 : PyData × PyData) => [some (.dat v_row), some (.dat v_lists), some (.dat t4.1), some (.dat t4.2)]) ([2] ++ ([3] ++ [])) (oi_z2S am (ox_fz (om_sort am (ox_var 0))) (ox_var 1)) (blkOk_by (by rfl)) (fun s H C cl fp am => (og_2 am (og_name 2 am) (fun _ => (og_name 3 am)))) (fun s H C cl fp t4 am => ots_nil) (fun s H C cl fp t4 am => (ox_call2 am g_run_at (by decide) (ox_var 3) (ox_call2 am g_code_of (by decide) (ox_var 0) (ox_var 2))))))) trivial)))
def b_run_list (v_row v_height : PyData) : Option (Fl Unit Unit Unit) := (Option.bind (Option.bind (some v_row) fun a1 => (Option.bind (some v_height) fun a2 => f_place_of a1 a2)) fun _ => (Option.map (fun v => Fl.rt v ()) (Option.map PyData.list (Option.bind (Option.bind (Option.bind (some v_row) f_all_lists) fun a6 => Option.bind (Option.bind (Option.map PyData.list (Option.bind (some v_row) pSort)) fun a4 => Option.bind (some v_height) fun b5 => pIndex a4 b5) fun b7 => pIx a6 b7) pIt))))
def f_run_list (v_row v_height : PyData) : OP := finF (b_run_list v_row v_height)
theorem fn_run_list {x : Str} (g_place_of : Fn P w K mg base "place_of" ["row", "height"] 2 (rel2 f_place_of)) (g_all_lists : Fn P w K mg base "all_lists" ["row"] 4 (rel1 f_all_lists)) (F : Fun K "run_list" "run_list" (top 30) f fd) (hm : mg x = some (.ref f)) (hb : Binds K fd ["row", "height"] []) (hbl : ∀ x ∈ blts, mg x = none) : Fn P w K mg base x ["row", "height"] 5 (rel2 f_run_list) := by
  refine Fn.of2 (k := 3) (N := ["row", "height"]) (eN := fun _ => [none, none]) (mB := b_run_list) F ⟨rfl, rfl, rfl, by decide +kernel, rfl, by decide +kernel, by decide +kernel⟩ hm hb hbl (by decide) rfl (fun _ _ => rfl) ?_
  intro cdv A outer s H E am e vs v_row v_height
  unfold b_run_list
  exact (oss_expr (ox_call2 am g_place_of (by decide) (ox_var 0) (ox_var 1)) (oss_ret (ox_fz (ox_list am (ox_ix (ox_call1 am g_all_lists (by decide) (ox_var 0)) (ox_index am (ox_fz (om_sort am (ox_var 0))) (ox_var 1))))) trivial))
def b_free_people (v_row : PyData) : Option (Fl Unit Unit Unit) := (Option.map (fun v => Fl.rt v ()) (Option.map PyData.list (Option.bind (Option.bind (Option.map PyData.list (Option.bind (some v_row) pSort)) fun a2 => Option.bind (Option.bind (some v_row) f_runs) fun b3 => pZ2 a2 b3) (compF (unP some (unP some some)) (fun (t4 : PyData × PyData × PyData) => (Option.bind (some t4.2.2) fun a5 => Option.bind (some t4.2.1) fun b6 => pGt a5 b6)) (fun (t4 : PyData × PyData × PyData) => (some t4.1))))))
def f_free_people (v_row : PyData) : OP := finF (b_free_people v_row)
theorem fn_free_people {x : Str} (g_runs_runs : Fn P w K mg base "runs_runs" ["row"] 5 (rel1 f_runs)) (F : Fun K "free_people" "free_people" (top 31) f fd) (hm : mg x = some (.ref f)) (hb : Binds K fd ["row"] []) (hbl : ∀ x ∈ blts, mg x = none) : Fn P w K mg base x ["row"] 6 (rel1 f_free_people) := by
  refine Fn.of1 (k := 4) (N := ["row", "height", "first", "last"]) (eN := fun _ => [none, none, none, none]) (mB := b_free_people) F ⟨rfl, rfl, rfl, by decide +kernel, rfl, by decide +kernel, by decide +kernel⟩ hm hb hbl (by decide) rfl (fun _ => rfl) ?_
  intro cdv A outer s H E am e vs v_row
  unfold b_free_people
  exact (oss_ret (ox_fz (om_lc (own := [("height", 1), ("first", 2), ("last", 3)]) am (fun (t4 : PyData × PyData × PyData) => [some (.dat v_row), some (.dat t4.1), some (.dat t4.2.1), some (.dat t4.2.2)]) ([1] ++ (([2] ++ ([3] ++ [])) ++ [])) (oi_z2S am (ox_fz (om_sort am (ox_var 0))) (ox_call1 am g_runs_runs (by decide) (ox_var 0))) (blkOk_by (by rfl)) (fun s H C cl fp am => (og_2 am (og_name 1 am) (fun _ => (og_2 am (og_name 2 am) (fun _ => (og_name 3 am)))))) (fun s H C cl fp t4 am => (ots_one (ot_gt (ox_var 3) (ox_var 2)))) (fun s H C cl fp t4 am => (ox_var 1)))) trivial)
def b_count_lots (v_many : PyData) : Option (Fl Unit Unit Unit) := (Option.bind (Option.bind (some (PyData.int 1)) fun a1 => Option.map (fun b => [a1, b]) (some (PyData.int 1))) fun v_found => (seqL (Option.bind (Option.bind (some (PyData.int 2)) fun a5 => Option.bind (Option.bind (some v_many) fun a3 => Option.bind (some (PyData.int 1)) fun b4 => pAdd a3 b4) fun b6 => pRg a5 b6) fun ds => loopF some (fun (s2 : List PyData) (t7 : PyData) => (Option.bind (Option.bind (Option.bind (some (PyData.int 2)) fun a10 => Option.bind (Option.bind (Option.bind (some (PyData.list s2)) fun a8 => Option.bind (Option.bind (some (PyData.int 1)) pNeg) fun b9 => pIx a8 b9) hardO) fun b11 => pMul a10 b11) fun a18 => Option.bind (Option.bind (Option.bind (some t7) fun a12 => Option.bind (some (PyData.int 2)) fun b13 => pSub a12 b13) fun a16 => Option.bind (Option.bind (Option.bind (some (PyData.list s2)) fun a14 => Option.bind (Option.bind (some (PyData.int 2)) pNeg) fun b15 => pIx a14 b15) hardO) fun b17 => pMul a16 b17) fun b19 => pAdd a18 b19) fun d20 => if List.length s2 < 16777216 then (some (Fl.nx (s2 ++ [d20]))) else none)) ds v_found) fun (s2 : List PyData) => (Option.map (fun v => Fl.rt v ()) (Option.bind (some (PyData.list s2)) fun a21 => Option.bind (some v_many) fun b22 => pIx a21 b22))))
def f_count_lots (v_many : PyData) : OP := finF (b_count_lots v_many)
theorem fn_count_lots {x : Str} (F : Fun K "count_lots" "count_lots" (top 33) f fd) (hm : mg x = some (.ref f)) (hb : Binds K fd ["many"] []) (hbl : ∀ x ∈ blts, mg x = none) : Fn P w K mg base x ["many"] 2 (rel1 f_count_lots) := by
  refine Fn.of1 (k := 0) (N := ["many", "found", "people"]) (eN := fun _ => [none, none, none]) (mB := b_count_lots) F ⟨rfl, rfl, rfl, by decide +kernel, rfl, by decide +kernel, by decide +kernel⟩ hm hb hbl (by decide) rfl (fun _ => rfl) ?_
  intro cdv A outer s H E am e vs v_many
  unfold b_count_lots
  exact (oss_letM am 1 (om_lst2 ox_int ox_int) (fun v_found => (oss_for (eL := (fun (s2 : List PyData) => [some (.dat v_many), some (.ml s2), none])) am v_found [2] (passes_of rfl) (oi_rg2 am ox_int (ox_add (ox_var 0) ox_int)) (fun s2 => (og_name 2 am)) (fun s2 t7 => (oss_append 1 (ox_add (ox_mul ox_int (ox_lend fun e => (ox_ix (ox_var 1) (ox_neg ox_int)))) (ox_mul (ox_sub (ox_var 2) ox_int) (ox_lend fun e => (ox_ix (ox_var 1) (ox_neg ox_int))))) (fun d20 => (oss_nil [2])))) (fun s2 => (oss_fz 1 (oss_ret (ox_ix (ox_var 1) (ox_var 0)) trivial))))))
def b_single_runs (v_many : PyData) : Option (Fl Unit Unit Unit) := (Option.map (fun v => Fl.rt v ()) (Option.map PyData.list (Option.bind (Option.bind (some v_many) fun a1 => pRg (PyData.int 0) a1) (compF some (fun (t2 : PyData) => (some true)) (fun (t2 : PyData) => (Option.bind (some t2) fun a3 => (Option.map (fun a4 => PyData.tuple [a3, a4]) (some t2))))))))
def f_single_runs (v_many : PyData) : OP := finF (b_single_runs v_many)
theorem fn_single_runs {x : Str} (F : Fun K "single_runs" "single_runs" (top 34) f fd) (hm : mg x = some (.ref f)) (hb : Binds K fd ["many"] []) (hbl : ∀ x ∈ blts, mg x = none) : Fn P w K mg base x ["many"] 2 (rel1 f_single_runs) := by
  refine Fn.of1 (k := 0) (N := ["many", "index"]) (eN := fun _ => [none, none]) (mB := b_single_runs) F ⟨rfl, rfl, rfl, by decide +kernel, rfl, by decide +kernel, by decide +kernel⟩ hm hb hbl (by decide) rfl (fun _ => rfl) ?_
  intro cdv A outer s H E am e vs v_many
  unfold b_single_runs
  exact (oss_ret (ox_fz (om_lc (own := [("index", 1)]) am (fun (t2 : PyData) => [some (.dat v_many), some (.dat t2)]) [1] (oi_rg1 am (ox_var 0)) (blkOk_by (by rfl)) (fun s H C cl fp am => (og_name 1 am)) (fun s H C cl fp t2 am => ots_nil) (fun s H C cl fp t2 am => (ox_tup2 (ox_var 1) (ox_var 1))))) trivial)
def b_signature (v_row : PyData) : Option (Fl Unit Unit Unit) := (Option.bind (Option.map PyData.list (Option.bind (Option.map PyData.list (Option.bind (some v_row) pSort)) fun a2 => Option.bind (Option.bind (some v_row) f_all_lists) fun b3 => pZ2 a2 b3)) fun v_pairs => (Option.map (fun v => Fl.rt v ()) (Option.bind (Option.map PyData.list (Option.bind (Option.bind (some v_pairs) pIt) (compF (unP some some) (fun (t4 : PyData × PyData) => (some true)) (fun (t4 : PyData × PyData) => (Option.bind (some t4.2) fun a9 => Option.bind (Option.bind (some t4.2) fun a7 => (Option.bind (Option.bind (some v_row) fun a5 => (Option.bind (some t4.1) fun a6 => f_code_of a5 a6)) fun a8 => f_run_at a7 a8)) fun b10 => pIndex a9 b10))))) pTup)))
def f_signature (v_row : PyData) : OP := finF (b_signature v_row)
theorem fn_signature {x : Str} (g_all_lists : Fn P w K mg base "all_lists" ["row"] 4 (rel1 f_all_lists)) (g_run_at : Fn P w K mg base "run_at" ["some", "index"] 2 (rel2 f_run_at)) (g_code_of : Fn P w K mg base "code_of" ["row", "height"] 3 (rel2 f_code_of)) (F : Fun K "signature" "signature" (top 35) f fd) (hm : mg x = some (.ref f)) (hb : Binds K fd ["row"] []) (hbl : ∀ x ∈ blts, mg x = none) : Fn P w K mg base x ["row"] 5 (rel1 f_signature) := by
  refine Fn.of1 (k := 3) (N := ["row", "pairs", "height", "some"]) (eN := fun _ => [none, none, none, none]) (mB := b_signature) F ⟨rfl, rfl, rfl, by decide +kernel, rfl, by decide +kernel, by decide +kernel⟩ hm hb hbl (by decide) rfl (fun _ => rfl) ?_
  intro cdv A outer s H E am e vs v_row
  unfold b_signature
  exact (oss_let am 1 (ox_fz (om_lz2S am (ox_fz (om_sort am (ox_var 0))) (ox_call1 am g_all_lists (by decide) (ox_var 0)))) (fun v_pairs => (oss_ret (ox_tuple am (ox_fz (om_lc (own := [("height", 2), ("some", 3)]) am (fun (t4 : PyData × PyData) => [some (.dat v_row), some (.dat v_pairs), some (.dat t4.1), some (.dat t4.2)]) ([2] ++ ([3] ++ [])) (oi_x am (ox_var 1)) (blkOk_by (by rfl)) (fun s H C cl fp am => (og_2 am (og_name 2 am) (fun _ => (og_name 3 am)))) (fun s H C cl fp t4 am => ots_nil) (fun s H C cl fp t4 am => (ox_index am (ox_var 3) (ox_call2 am g_run_at (by decide) (ox_var 3) (ox_call2 am g_code_of (by decide) (ox_var 0) (ox_var 2)))))))) trivial)))
def b_run_counts (v_many v_signature : PyData) : Option (Fl Unit Unit Unit) := (Option.bind (Option.bind (some v_many) f_single_runs) fun v_here => (Option.bind (some []) fun v_found => (seqL (Option.bind (Option.bind (some v_signature) pIt) fun ds => loopF some (fun (s2 : PyData × List PyData) (t3 : PyData) => (Option.bind (Option.bind (some s2.1) pLen) fun d4 => if List.length s2.2 < 16777216 then (Option.bind (Option.map (!·) (Option.bind (some (PyData.int 0)) fun a => Option.bind (some t3) fun b => Option.bind (Option.bind (some s2.1) pLen) fun c => pCh pLe pLt a b c)) fun a5 => bif a5 then seqF (σ1 := Empty) (Option.map (fun v => Fl.rt v ()) (Option.bind (some (PyData.list (s2.2 ++ [d4]))) fun a => Option.bind (some none) fun i => Option.bind (Option.map some (Option.bind (Option.bind (some (PyData.int 1)) pNeg) pInt)) fun j => pSl a i j)) (fun s => s.elim) else (Option.bind (Option.bind (some s2.1) fun a10 => (Option.bind (Option.bind (Option.bind (some s2.1) fun a6 => Option.bind (some t3) fun b7 => pIx a6 b7) fun a8 => Option.bind (some (PyData.int 0)) fun b9 => pIx a8 b9) fun a11 => f_next_runs a10 a11)) fun v_here => (some (Fl.nx (v_here, (s2.2 ++ [d4])))))) else none)) ds (v_here, v_found)) fun (s2 : PyData × List PyData) => (Option.map (fun v => Fl.rt v ()) (some (PyData.list s2.2))))))
def f_run_counts (v_many v_signature : PyData) : OP := finF (b_run_counts v_many v_signature)
theorem fn_run_counts {x : Str} (g_single_runs : Fn P w K mg base "single_runs" ["many"] 2 (rel1 f_single_runs)) (g_next_runs : Fn P w K mg base "next_runs" ["some", "index"] 3 (rel2 f_next_runs)) (F : Fun K "run_counts" "run_counts" (top 36) f fd) (hm : mg x = some (.ref f)) (hb : Binds K fd ["many", "signature"] []) (hbl : ∀ x ∈ blts, mg x = none) : Fn P w K mg base x ["many", "signature"] 4 (rel2 f_run_counts) := by
  refine Fn.of2 (k := 2) (N := ["many", "signature", "here", "found", "index"]) (eN := fun _ => [none, none, none, none, none]) (mB := b_run_counts) F ⟨rfl, rfl, rfl, by decide +kernel, rfl, by decide +kernel, by decide +kernel⟩ hm hb hbl (by decide) rfl (fun _ _ => rfl) ?_
  intro cdv A outer s H E am e vs v_many v_signature
  unfold b_run_counts
  exact (oss_par Kd.dat Kd.ml am 2 3 (ox_call1 am g_single_runs (by decide) (ox_var 0)) om_lst0 (fun v_here v_found => (oss_for (eL := (fun (s2 : PyData × List PyData) => [some (.dat v_many), some (.dat v_signature), some (.dat s2.1), some (.ml s2.2), none])) am (v_here, v_found) [4] (passes_of rfl) (oi_x am (ox_var 1)) (fun s2 => (og_name 4 am)) (fun s2 t3 => (oss_append 3 (ox_len am (ox_var 2)) (fun d4 => (oss_ifR (ot_not (ot_chain (fun i j => decide (i ≤ j)) (fun i j => decide (i < j)) op_le op_lt ch_le ch_lt ox_int (ox_var 4) (ox_len am (ox_var 2)))) (oss_fz 3 (oss_ret (ox_sl (ox_var 3) oq_no (oq_so (ox_neg ox_int))) trivial)) (oss_let am 2 (ox_call2 am g_next_runs (by decide) (ox_var 2) (ox_ix (ox_ix (ox_var 2) (ox_var 4)) ox_int)) (fun v_here => (oss_nil [4]))))))) (fun s2 => (oss_fz 3 (oss_ret (ox_var 3) trivial))))))
def b_lot_row (v_many v_signature : PyData) : Option (Fl Unit Unit Unit) := (Option.bind (Option.bind (some v_many) f_single_runs) fun v_here => (Option.bind (some []) fun v_found => (seqL (Option.bind (Option.bind (some v_signature) pIt) fun ds => loopF some (fun (s2 : PyData × List PyData) (t3 : PyData) => (Option.bind (Option.bind (Option.bind (some s2.1) fun a4 => Option.bind (some t3) fun b5 => pIx a4 b5) fun a6 => Option.bind (some (PyData.int 0)) fun b7 => pIx a6 b7) fun d8 => if List.length s2.2 < 16777216 then (Option.bind (Option.bind (some s2.1) fun a13 => (Option.bind (Option.bind (Option.bind (some s2.1) fun a9 => Option.bind (some t3) fun b10 => pIx a9 b10) fun a11 => Option.bind (some (PyData.int 0)) fun b12 => pIx a11 b12) fun a14 => f_next_runs a13 a14)) fun v_here => (some (Fl.nx (v_here, (s2.2 ++ [d8]))))) else none)) ds (v_here, v_found)) fun (s2 : PyData × List PyData) => (Option.map (fun v => Fl.rt v ()) (Option.bind (Option.bind (some (PyData.int 1)) fun a17 => Option.bind (Option.bind (some v_many) fun a15 => Option.bind (some (PyData.int 1)) fun b16 => pAdd a15 b16) fun b18 => Option.map PyData.tuple (pRg a17 b18)) fun a19 => (Option.bind (some (PyData.list s2.2)) fun a20 => f_row_with a19 a20))))))
def f_lot_row (v_many v_signature : PyData) : OP := finF (b_lot_row v_many v_signature)
theorem fn_lot_row {x : Str} (g_single_runs : Fn P w K mg base "single_runs" ["many"] 2 (rel1 f_single_runs)) (g_next_runs : Fn P w K mg base "next_runs" ["some", "index"] 3 (rel2 f_next_runs)) (g_row_with : Fn P w K mg base "row_with" ["row", "codes"] 2 (rel2 f_row_with)) (F : Fun K "lot_row" "lot_row" (top 37) f fd) (hm : mg x = some (.ref f)) (hb : Binds K fd ["many", "signature"] []) (hbl : ∀ x ∈ blts, mg x = none) : Fn P w K mg base x ["many", "signature"] 4 (rel2 f_lot_row) := by
  refine Fn.of2 (k := 2) (N := ["many", "signature", "here", "found", "index"]) (eN := fun _ => [none, none, none, none, none]) (mB := b_lot_row) F ⟨rfl, rfl, rfl, by decide +kernel, rfl, by decide +kernel, by decide +kernel⟩ hm hb hbl (by decide) rfl (fun _ _ => rfl) ?_
  intro cdv A outer s H E am e vs v_many v_signature
  unfold b_lot_row
  exact (oss_par Kd.dat Kd.ml am 2 3 (ox_call1 am g_single_runs (by decide) (ox_var 0)) om_lst0 (fun v_here v_found => (oss_for (eL := (fun (s2 : PyData × List PyData) => [some (.dat v_many), some (.dat v_signature), some (.dat s2.1), some (.ml s2.2), none])) am (v_here, v_found) [4] (passes_of rfl) (oi_x am (ox_var 1)) (fun s2 => (og_name 4 am)) (fun s2 t3 => (oss_append 3 (ox_ix (ox_ix (ox_var 2) (ox_var 4)) ox_int) (fun d8 => (oss_let am 2 (ox_call2 am g_next_runs (by decide) (ox_var 2) (ox_ix (ox_ix (ox_var 2) (ox_var 4)) ox_int)) (fun v_here => (oss_nil [4])))))) (fun s2 => (oss_fz 3 (oss_ret (ox_call2 am g_row_with (by decide) (ox_tupRg2 am ox_int (ox_add (ox_var 0) ox_int)) (ox_var 3)) trivial))))))
def b_left_after (v_count v_index : PyData) : Option (Fl Unit Unit Unit) := (Option.map (fun v => Fl.rt v ()) (Option.bind (Option.bind (some (PyData.int 0)) fun a => Option.bind (some v_index) fun b => Option.bind (Option.bind (some v_count) fun a1 => Option.bind (some (PyData.int 1)) fun b2 => pSub a1 b2) fun c => pCh pLt pLt a b c) fun a7 => bif a7 then (Option.bind (some v_count) fun a3 => Option.bind (some (PyData.int 2)) fun b4 => pSub a3 b4) else (Option.bind (some v_count) fun a5 => Option.bind (some (PyData.int 1)) fun b6 => pSub a5 b6)))
def f_left_after (v_count v_index : PyData) : OP := finF (b_left_after v_count v_index)
theorem fn_left_after {x : Str} (F : Fun K "left_after" "left_after" (top 38) f fd) (hm : mg x = some (.ref f)) (hb : Binds K fd ["count", "index"] []) (hbl : ∀ x ∈ blts, mg x = none) : Fn P w K mg base x ["count", "index"] 2 (rel2 f_left_after) := by
  refine Fn.of2 (k := 0) (N := ["count", "index"]) (eN := fun _ => [none, none]) (mB := b_left_after) F ⟨rfl, rfl, rfl, by decide +kernel, rfl, by decide +kernel, by decide +kernel⟩ hm hb hbl (by decide) rfl (fun _ _ => rfl) ?_
  intro cdv A outer s H E am e vs v_count v_index
  unfold b_left_after
  exact (oss_ret (ox_if (ot_chain (fun i j => decide (i < j)) (fun i j => decide (i < j)) op_lt op_lt ch_lt ch_lt ox_int (ox_var 1) (ox_sub (ox_var 0) ox_int)) (ox_sub (ox_var 0) ox_int) (ox_sub (ox_var 0) ox_int)) trivial)
def b_lots_after (v_count v_index : PyData) : Option (Fl Unit Unit Unit) := (Option.map (fun v => Fl.rt v ()) (Option.bind (Option.bind (some v_count) fun a1 => Option.bind (some (PyData.int 1)) fun b2 => pEq a1 b2) fun a6 => bif a6 then (some (PyData.int 1)) else (Option.bind (Option.bind (some v_count) fun a3 => (Option.bind (some v_index) fun a4 => f_left_after a3 a4)) f_count_lots)))
def f_lots_after (v_count v_index : PyData) : OP := finF (b_lots_after v_count v_index)
theorem fn_lots_after {x : Str} (g_count_lots : Fn P w K mg base "count_lots" ["many"] 2 (rel1 f_count_lots)) (g_left_after : Fn P w K mg base "left_after" ["count", "index"] 2 (rel2 f_left_after)) (F : Fun K "lots_after" "lots_after" (top 39) f fd) (hm : mg x = some (.ref f)) (hb : Binds K fd ["count", "index"] []) (hbl : ∀ x ∈ blts, mg x = none) : Fn P w K mg base x ["count", "index"] 3 (rel2 f_lots_after) := by
  refine Fn.of2 (k := 1) (N := ["count", "index"]) (eN := fun _ => [none, none]) (mB := b_lots_after) F ⟨rfl, rfl, rfl, by decide +kernel, rfl, by decide +kernel, by decide +kernel⟩ hm hb hbl (by decide) rfl (fun _ _ => rfl) ?_
  intro cdv A outer s H E am e vs v_count v_index
  unfold b_lots_after
  exact (oss_ret (ox_if (ot_eq am (ox_var 0) ox_int) ox_int (ox_call1 am g_count_lots (by decide) (ox_call2 am g_left_after (by decide) (ox_var 0) (ox_var 1)))) trivial)
def b_signature_at (v_many v_number : PyData) : Option (Fl Unit Unit Unit) := (Option.bind (Option.map (!·) (Option.bind (some (PyData.int 0)) fun a => Option.bind (some v_number) fun b => Option.bind (Option.bind (some v_many) f_count_lots) fun c => pCh pLe pLt a b c)) fun a2 => bif a2 then none else (Option.bind (some []) fun v_found => (Option.bind (some v_number) fun v_rest => (Option.bind (Option.bind (some v_many) f_single_runs) fun v_here => (seqL (Option.bind (Option.bind (some v_many) fun a5 => pRg (PyData.int 0) a5) fun ds => loopF some (fun (s4 : List PyData × PyData × PyData) (t6 : PyData) => (Option.bind (some (PyData.int 0)) fun v_index => (seqL (whileF (fun (s7 : PyData × PyData) => (Option.bind (some s7.1) fun a10 => Option.bind (Option.bind (Option.bind (some s4.2.2) pLen) fun a8 => (Option.bind (some s7.2) fun a9 => f_lots_after a8 a9)) fun b11 => pGe a10 b11)) (fun (s7 : PyData × PyData) => (Option.bind (Option.bind (Option.bind (Option.bind (some s4.2.2) pLen) fun a12 => (Option.bind (some s7.2) fun a13 => f_lots_after a12 a13)) fun b14 => pSub s7.1 b14) fun v_rest => (Option.bind (Option.bind (some (PyData.int 1)) fun b15 => iAdd s7.2 b15) fun v_index => (some (Fl.nx (v_rest, v_index)))))) 100000 (s4.2.1, v_index)) fun (s7 : PyData × PyData) => (Option.bind (some s7.2) fun d16 => if List.length s4.1 < 16777216 then (Option.bind (Option.bind (some s4.2.2) fun a21 => (Option.bind (Option.bind (Option.bind (some s4.2.2) fun a17 => Option.bind (some s7.2) fun b18 => pIx a17 b18) fun a19 => Option.bind (some (PyData.int 0)) fun b20 => pIx a19 b20) fun a22 => f_next_runs a21 a22)) fun v_here => (some (Fl.nx ((s4.1 ++ [d16]), s7.1, v_here)))) else none)))) ds (v_found, v_rest, v_here)) fun (s4 : List PyData × PyData × PyData) => (Option.map (fun v => Fl.rt v ()) (Option.bind (some (PyData.list s4.1)) pTup)))))))
def f_signature_at (v_many v_number : PyData) : OP := finF (b_signature_at v_many v_number)
theorem fn_signature_at {x : Str} (g_count_lots : Fn P w K mg base "count_lots" ["many"] 2 (rel1 f_count_lots)) (g_single_runs : Fn P w K mg base "single_runs" ["many"] 2 (rel1 f_single_runs)) (g_lots_after : Fn P w K mg base "lots_after" ["count", "index"] 3 (rel2 f_lots_after)) (g_next_runs : Fn P w K mg base "next_runs" ["some", "index"] 3 (rel2 f_next_runs)) (F : Fun K "signature_at" "signature_at" (top 40) f fd) (hm : mg x = some (.ref f)) (hb : Binds K fd ["many", "number"] []) (hbl : ∀ x ∈ blts, mg x = none) : Fn P w K mg base x ["many", "number"] 4 (rel2 f_signature_at) := by
  refine Fn.of2 (k := 2) (N := ["many", "number", "found", "rest", "here", "turn", "index"]) (eN := fun _ => [none, none, none, none, none, none, none]) (mB := b_signature_at) F ⟨rfl, rfl, rfl, by decide +kernel, rfl, by decide +kernel, by decide +kernel⟩ hm hb hbl (by decide) rfl (fun _ _ => rfl) ?_
  intro cdv A outer s H E am e vs v_many v_number
  unfold b_signature_at
  exact (oss_ifN (ot_not (ot_chain (fun i j => decide (i ≤ j)) (fun i j => decide (i < j)) op_le op_lt ch_le ch_lt ox_int (ox_var 1) (ox_call1 am g_count_lots (by decide) (ox_var 0)))) (oss_par3 Kd.ml Kd.dat Kd.dat am 2 3 4 om_lst0 (ox_var 1) (ox_call1 am g_single_runs (by decide) (ox_var 0)) (fun v_found v_rest v_here => (oss_for (eL := (fun (s4 : List PyData × PyData × PyData) => [some (.dat v_many), some (.dat v_number), some (.ml s4.1), some (.dat s4.2.1), some (.dat s4.2.2), none, none])) am (v_found, v_rest, v_here) [5] (passes_of rfl) (oi_rg1 am (ox_var 0)) (fun s4 => (og_name 5 am)) (fun s4 t6 => (oss_let am 6 ox_int (fun v_index => (oss_while (eL := (fun (s7 : PyData × PyData) => [some (.dat v_many), some (.dat v_number), some (.ml s4.1), some (.dat s7.1), some (.dat s4.2.2), some (.dat t6), some (.dat s7.2)])) 100000 (s4.2.1, v_index) (passes_of rfl) (fun s7 => (ot_ge (ox_var 3) (ox_call2 am g_lots_after (by decide) (ox_len am (ox_var 4)) (ox_var 6)))) (fun s7 => (oss_aug' am 3 (ox_call2 am g_lots_after (by decide) (ox_len am (ox_var 4)) (ox_var 6)) ip_sub ga_sub (fun v_rest => (oss_aug' am 6 ox_int ip_add ga_add (fun v_index => (oss_nil [])))))) (fun s7 => (oss_append 2 (ox_var 6) (fun d16 => (oss_let am 4 (ox_call2 am g_next_runs (by decide) (ox_var 4) (ox_ix (ox_ix (ox_var 4) (ox_var 6)) ox_int)) (fun v_here => (oss_nil [5, 6])))))))))) (fun s4 => (oss_fz 2 (oss_ret (ox_tuple am (ox_var 2)) trivial)))))))
def b_signature_number (v_many v_signature : PyData) : Option (Fl Unit Unit Unit) := (Option.bind (Option.map PyData.list (Option.bind (Option.bind (some v_many) fun a1 => (Option.bind (some v_signature) fun a2 => f_run_counts a1 a2)) fun a3 => Option.bind (some v_signature) fun b4 => pZ2 a3 b4)) fun v_pairs => (Option.map (fun v => Fl.rt v ()) (Option.bind (Option.map PyData.list (Option.bind (Option.bind (some v_pairs) pIt) (compF (unP some some) (fun (t5 : PyData × PyData) => (some true)) (fun (t5 : PyData × PyData) => (Option.bind (Option.map PyData.list (Option.bind (Option.bind (some t5.2) fun a6 => pRg (PyData.int 0) a6) (compF some (fun (t7 : PyData) => (some true)) (fun (t7 : PyData) => (Option.bind (some t5.1) fun a8 => (Option.bind (some t7) fun a9 => f_lots_after a8 a9)))))) pSum))))) pSum)))
def f_signature_number (v_many v_signature : PyData) : OP := finF (b_signature_number v_many v_signature)
theorem fn_signature_number {x : Str} (g_run_counts : Fn P w K mg base "run_counts" ["many", "signature"] 4 (rel2 f_run_counts)) (g_lots_after : Fn P w K mg base "lots_after" ["count", "index"] 3 (rel2 f_lots_after)) (F : Fun K "signature_number" "signature_number" (top 41) f fd) (hm : mg x = some (.ref f)) (hb : Binds K fd ["many", "signature"] []) (hbl : ∀ x ∈ blts, mg x = none) : Fn P w K mg base x ["many", "signature"] 5 (rel2 f_signature_number) := by
  refine Fn.of2 (k := 3) (N := ["many", "signature", "pairs", "count", "index", "less"]) (eN := fun _ => [none, none, none, none, none, none]) (mB := b_signature_number) F ⟨rfl, rfl, rfl, by decide +kernel, rfl, by decide +kernel, by decide +kernel⟩ hm hb hbl (by decide) rfl (fun _ _ => rfl) ?_
  intro cdv A outer s H E am e vs v_many v_signature
  unfold b_signature_number
  exact (oss_let am 2 (ox_fz (om_lz2S am (ox_call2 am g_run_counts (by decide) (ox_var 0) (ox_var 1)) (ox_var 1))) (fun v_pairs => (oss_ret (ox_sum am (ox_fz (om_lc (own := [("count", 3), ("index", 4)]) am (fun (t5 : PyData × PyData) => [some (.dat v_many), some (.dat v_signature), some (.dat v_pairs), some (.dat t5.1), some (.dat t5.2), none]) ([3] ++ ([4] ++ [])) (oi_x am (ox_var 2)) (blkOk_by (by rfl)) (fun s H C cl fp am => (og_2 am (og_name 3 am) (fun _ => (og_name 4 am)))) (fun s H C cl fp t5 am => ots_nil) (fun s H C cl fp t5 am => (ox_sum am (ox_fz (om_lc (own := [("less", 5)]) am (fun (t7 : PyData) => [some (.dat v_many), some (.dat v_signature), some (.dat v_pairs), some (.dat t5.1), some (.dat t5.2), some (.dat t7)]) [5] (oi_rg1 am (ox_var 4)) (blkOk_by (by rfl)) (fun s H C cl fp am => (og_name 5 am)) (fun s H C cl fp t7 am => ots_nil) (fun s H C cl fp t7 am => (ox_call2 am g_lots_after (by decide) (ox_var 3) (ox_var 5)))))))))) trivial)))
def b_gcd (v_one v_other : PyData) : Option (Fl Unit Unit Unit) := (seqL (whileF (fun (s1 : PyData × PyData) => (Option.bind (some s1.2) fun a2 => Option.bind (some (PyData.int 0)) fun b3 => pGt a2 b3)) (fun (s1 : PyData × PyData) => (Option.bind (some s1.2) fun v_one => (Option.bind (Option.bind (some s1.1) fun a4 => Option.bind (some s1.2) fun b5 => pMod a4 b5) fun v_other => (some (Fl.nx (v_one, v_other)))))) 100000 (v_one, v_other)) fun (s1 : PyData × PyData) => (Option.map (fun v => Fl.rt v ()) (some s1.1)))
def f_gcd (v_one v_other : PyData) : OP := finF (b_gcd v_one v_other)
theorem fn_gcd {x : Str} (F : Fun K "gcd" "gcd" (top 43) f fd) (hm : mg x = some (.ref f)) (hb : Binds K fd ["one", "other"] []) (hbl : ∀ x ∈ blts, mg x = none) : Fn P w K mg base x ["one", "other"] 2 (rel2 f_gcd) := by
  refine Fn.of2 (k := 0) (N := ["one", "other"]) (eN := fun _ => [none, none]) (mB := b_gcd) F ⟨rfl, rfl, rfl, by decide +kernel, rfl, by decide +kernel, by decide +kernel⟩ hm hb hbl (by decide) rfl (fun _ _ => rfl) ?_
  intro cdv A outer s H E am e vs v_one v_other
  unfold b_gcd
  exact (oss_while (eL := (fun (s1 : PyData × PyData) => [some (.dat s1.1), some (.dat s1.2)])) 100000 (v_one, v_other) (passes_of rfl) (fun s1 => (ot_gt (ox_var 1) ox_int)) (fun s1 => (oss_par Kd.dat Kd.dat am 0 1 (ox_var 1) (ox_mod (ox_var 0) (ox_var 1)) (fun v_one v_other => (oss_nil [])))) (fun s1 => (oss_ret (ox_var 0) trivial)))
def b_reduced (v_numerator v_denominator : PyData) : Option (Fl Unit Unit Unit) := (Option.bind (Option.bind (some v_numerator) fun a1 => (Option.bind (some v_denominator) fun a2 => f_gcd a1 a2)) fun v_common => (Option.map (fun v => Fl.rt v ()) (Option.bind (Option.bind (some v_numerator) fun a3 => Option.bind (some v_common) fun b4 => pDiv a3 b4) fun a7 => (Option.map (fun a8 => PyData.tuple [a7, a8]) (Option.bind (some v_denominator) fun a5 => Option.bind (some v_common) fun b6 => pDiv a5 b6)))))
def f_reduced (v_numerator v_denominator : PyData) : OP := finF (b_reduced v_numerator v_denominator)
theorem fn_reduced {x : Str} (g_gcd : Fn P w K mg base "gcd" ["one", "other"] 2 (rel2 f_gcd)) (F : Fun K "reduced" "reduced" (top 44) f fd) (hm : mg x = some (.ref f)) (hb : Binds K fd ["numerator", "denominator"] []) (hbl : ∀ x ∈ blts, mg x = none) : Fn P w K mg base x ["numerator", "denominator"] 3 (rel2 f_reduced) := by
  refine Fn.of2 (k := 1) (N := ["numerator", "denominator", "common"]) (eN := fun _ => [none, none, none]) (mB := b_reduced) F ⟨rfl, rfl, rfl, by decide +kernel, rfl, by decide +kernel, by decide +kernel⟩ hm hb hbl (by decide) rfl (fun _ _ => rfl) ?_
  intro cdv A outer s H E am e vs v_numerator v_denominator
  unfold b_reduced
  exact (oss_let am 2 (ox_call2 am g_gcd (by decide) (ox_var 0) (ox_var 1)) (fun v_common => (oss_ret (ox_tup2 (ox_div (ox_var 0) (ox_var 2)) (ox_div (ox_var 1) (ox_var 2))) trivial)))
def b_are_lower (v_row v_start v_end v_height : PyData) : Option (Fl Unit Unit Unit) := (Option.map (fun v => Fl.rt v ()) (Option.bind (Option.map PyData.list (Option.bind (Option.bind (Option.bind (some v_row) fun a => Option.bind (Option.map some (Option.bind (some v_start) pInt)) fun i => Option.bind (Option.map some (Option.bind (some v_end) pInt)) fun j => pSl a i j) pIt) (compF some (fun (t1 : PyData) => (some true)) (fun (t1 : PyData) => (Option.map PyData.bool (Option.bind (some t1) fun a2 => Option.bind (some v_height) fun b3 => pLt a2 b3)))))) pAll))
def f_are_lower (v_row v_start v_end v_height : PyData) : OP := finF (b_are_lower v_row v_start v_end v_height)
theorem fn_are_lower {x : Str} (F : Fun K "are_lower" "are_lower" (top 51) f fd) (hm : mg x = some (.ref f)) (hb : Binds K fd ["row", "start", "end", "height"] []) (hbl : ∀ x ∈ blts, mg x = none) : Fn P w K mg base x ["row", "start", "end", "height"] 2 (rel4 f_are_lower) := by
  refine Fn.of4 (k := 0) (N := ["row", "start", "end", "height", "other"]) (eN := fun _ => [none, none, none, none, none]) (mB := b_are_lower) F ⟨rfl, rfl, rfl, by decide +kernel, rfl, by decide +kernel, by decide +kernel⟩ hm hb hbl (by decide) rfl (fun _ _ _ _ => rfl) ?_
  intro cdv A outer s H E am e vs v_row v_start v_end v_height
  unfold b_are_lower
  exact (oss_ret (ox_all am (ox_fz (om_lc (own := [("other", 4)]) am (fun (t1 : PyData) => [some (.dat v_row), some (.dat v_start), some (.dat v_end), some (.dat v_height), some (.dat t1)]) [4] (oi_x am (ox_sl (ox_var 0) (oq_so (ox_var 1)) (oq_so (ox_var 2)))) (blkOk_by (by rfl)) (fun s H C cl fp am => (og_name 4 am)) (fun s H C cl fp t1 am => ots_nil) (fun s H C cl fp t1 am => (ox_lt (ox_var 4) (ox_var 3)))))) trivial)
def b_sees_at (v_row v_i v_j : PyData) : Option (Fl Unit Unit Unit) := (Option.map (fun v => Fl.rt v ()) (Option.bind (some v_row) fun a9 => (Option.bind (Option.bind (some v_i) fun a1 => Option.bind (some (PyData.int 1)) fun b2 => pAdd a1 b2) fun a10 => (Option.bind (some v_j) fun a11 => (Option.bind (Option.bind (Option.bind (some v_row) fun a3 => Option.bind (some v_i) fun b4 => pIx a3 b4) fun a7 => Option.bind (Option.bind (some v_row) fun a5 => Option.bind (some v_j) fun b6 => pIx a5 b6) fun b8 => pMin a7 b8) fun a12 => f_are_lower a9 a10 a11 a12)))))
def f_sees_at (v_row v_i v_j : PyData) : OP := finF (b_sees_at v_row v_i v_j)
theorem fn_sees_at {x : Str} (g_are_lower : Fn P w K mg base "are_lower" ["row", "start", "end", "height"] 2 (rel4 f_are_lower)) (F : Fun K "sees_at" "sees_at" (top 52) f fd) (hm : mg x = some (.ref f)) (hb : Binds K fd ["row", "i", "j"] []) (hbl : ∀ x ∈ blts, mg x = none) : Fn P w K mg base x ["row", "i", "j"] 3 (rel3 f_sees_at) := by
  refine Fn.of3 (k := 1) (N := ["row", "i", "j"]) (eN := fun _ => [none, none, none]) (mB := b_sees_at) F ⟨rfl, rfl, rfl, by decide +kernel, rfl, by decide +kernel, by decide +kernel⟩ hm hb hbl (by decide) rfl (fun _ _ _ => rfl) ?_
  intro cdv A outer s H E am e vs v_row v_i v_j
  unfold b_sees_at
  exact (oss_ret (ox_call4 am g_are_lower (by decide) (ox_var 0) (ox_add (ox_var 1) ox_int) (ox_var 2) (ox_min2 am (ox_ix (ox_var 0) (ox_var 1)) (ox_ix (ox_var 0) (ox_var 2)))) trivial)
def b_sights (v_row : PyData) : Option (Fl Unit Unit Unit) := (Option.bind (some []) fun v_found => (seqL (Option.bind (Option.bind (Option.bind (some v_row) pLen) fun a2 => pRg (PyData.int 0) a2) fun ds => loopF some (fun (s1 : List PyData) (t3 : PyData) => (Option.bind (Option.bind (Option.bind (Option.bind (some t3) fun a4 => Option.bind (some (PyData.int 1)) fun b5 => pAdd a4 b5) fun a6 => Option.bind (Option.bind (some v_row) pLen) fun b7 => pRg a6 b7) (compF some (fun (t8 : PyData) => (Option.bind (Option.bind (some v_row) fun a9 => (Option.bind (some t3) fun a10 => (Option.bind (some t8) fun a11 => f_sees_at a9 a10 a11))) pB)) (fun (t8 : PyData) => (Option.bind (some t3) fun a12 => (Option.map (fun a13 => PyData.tuple [a12, a13]) (some t8)))))) fun d14 => if List.length s1 + List.length d14 ≤ 16777216 then (some (Fl.nx (s1 ++ d14))) else none)) ds v_found) fun (s1 : List PyData) => (Option.map (fun v => Fl.rt v ()) (some (PyData.list s1)))))
def f_sights (v_row : PyData) : OP := finF (b_sights v_row)
theorem fn_sights {x : Str} (g_sees_at : Fn P w K mg base "sees_at" ["row", "i", "j"] 3 (rel3 f_sees_at)) (F : Fun K "sights" "sights" (top 53) f fd) (hm : mg x = some (.ref f)) (hb : Binds K fd ["row"] []) (hbl : ∀ x ∈ blts, mg x = none) : Fn P w K mg base x ["row"] 4 (rel1 f_sights) := by
  refine Fn.of1 (k := 2) (N := ["row", "found", "i", "j"]) (eN := fun _ => [none, none, none, none]) (mB := b_sights) F ⟨rfl, rfl, rfl, by decide +kernel, rfl, by decide +kernel, by decide +kernel⟩ hm hb hbl (by decide) rfl (fun _ => rfl) ?_
  intro cdv A outer s H E am e vs v_row
  unfold b_sights
  exact (oss_letM am 1 om_lst0 (fun v_found => (oss_for (eL := (fun (s1 : List PyData) => [some (.dat v_row), some (.ml s1), none, none])) am v_found [2] (passes_of rfl) (oi_rg1 am (ox_len am (ox_var 0))) (fun s1 => (og_name 2 am)) (fun s1 t3 => (oss_extend 1 (om_lc (own := [("j", 3)]) am (fun (t8 : PyData) => [some (.dat v_row), some (.ml s1), some (.dat t3), some (.dat t8)]) [3] (oi_rg2 am (ox_add (ox_var 2) ox_int) (ox_len am (ox_var 0))) (blkOk_by (by rfl)) (fun s H C cl fp am => (og_name 3 am)) (fun s H C cl fp t8 am => (ots_one (ot_val (ox_call3 am g_sees_at (by decide) (ox_var 0) (ox_var 2) (ox_var 3))))) (fun s H C cl fp t8 am => (ox_tup2 (ox_var 2) (ox_var 3)))) (fun d14 => (oss_nil [2])))) (fun s1 => (oss_fz 1 (oss_ret (ox_var 1) trivial))))))
def b_exchanges (v_row : PyData) : Option (Fl Unit Unit Unit) := (Option.map (fun v => Fl.rt v ()) (Option.map PyData.list (Option.bind (Option.bind (Option.bind (some v_row) f_sights) pIt) (compF (unP some some) (fun (t2 : PyData × PyData) => (Option.bind (some t2.2) fun a5 => Option.bind (Option.bind (some t2.1) fun a3 => Option.bind (some (PyData.int 1)) fun b4 => pAdd a3 b4) fun b6 => pGt a5 b6)) (fun (t2 : PyData × PyData) => (Option.bind (some t2.1) fun a7 => (Option.map (fun a8 => PyData.tuple [a7, a8]) (some t2.2))))))))
def f_exchanges (v_row : PyData) : OP := finF (b_exchanges v_row)
theorem fn_exchanges {x : Str} (g_sights : Fn P w K mg base "sights" ["row"] 4 (rel1 f_sights)) (F : Fun K "exchanges" "exchanges" (top 54) f fd) (hm : mg x = some (.ref f)) (hb : Binds K fd ["row"] []) (hbl : ∀ x ∈ blts, mg x = none) : Fn P w K mg base x ["row"] 5 (rel1 f_exchanges) := by
  refine Fn.of1 (k := 3) (N := ["row", "i", "j"]) (eN := fun _ => [none, none, none]) (mB := b_exchanges) F ⟨rfl, rfl, rfl, by decide +kernel, rfl, by decide +kernel, by decide +kernel⟩ hm hb hbl (by decide) rfl (fun _ => rfl) ?_
  intro cdv A outer s H E am e vs v_row
  unfold b_exchanges
  exact (oss_ret (ox_fz (om_lc (own := [("i", 1), ("j", 2)]) am (fun (t2 : PyData × PyData) => [some (.dat v_row), some (.dat t2.1), some (.dat t2.2)]) ([1] ++ ([2] ++ [])) (oi_x am (ox_call1 am g_sights (by decide) (ox_var 0))) (blkOk_by (by rfl)) (fun s H C cl fp am => (og_2 am (og_name 1 am) (fun _ => (og_name 2 am)))) (fun s H C cl fp t2 am => (ots_one (ot_gt (ox_var 2) (ox_add (ox_var 1) ox_int)))) (fun s H C cl fp t2 am => (ox_tup2 (ox_var 1) (ox_var 2))))) trivial)
def b_bar_of (v_one v_other : PyData) : Option (Fl Unit Unit Unit) := (Option.bind (Option.bind (Option.bind (Option.map PyData.list (Option.bind (some v_one) pSort)) fun a => Option.bind (Option.bind (some v_one) f_runs) fun b => Option.bind (Option.bind (some v_other) f_runs) fun c => pZ3 a b c) (compF (unT some some some) (fun (t3 : PyData × PyData × PyData) => (Option.map (!·) (Option.bind (some t3.2.1) fun a4 => Option.bind (some t3.2.2) fun b5 => pEq a4 b5))) (fun (t3 : PyData × PyData × PyData) => (some t3.1)))) fun v_found => (Option.map (fun v => Fl.rt v ()) (Option.bind (Option.bind (Option.bind (some (PyData.list v_found)) pLen) fun a6 => Option.bind (some (PyData.int 0)) fun b7 => pGt a6 b7) fun a10 => bif a10 then (Option.bind (some (PyData.list v_found)) fun a8 => Option.bind (some (PyData.int 0)) fun b9 => pIx a8 b9) else (some PyData.none))))
def f_bar_of (v_one v_other : PyData) : OP := finF (b_bar_of v_one v_other)
theorem fn_bar_of {x : Str} (g_runs_runs : Fn P w K mg base "runs_runs" ["row"] 5 (rel1 f_runs)) (F : Fun K "bar_of" "bar_of" (top 63) f fd) (hm : mg x = some (.ref f)) (hb : Binds K fd ["one", "other"] []) (hbl : ∀ x ∈ blts, mg x = none) : Fn P w K mg base x ["one", "other"] 6 (rel2 f_bar_of) := by
  refine Fn.of2 (k := 4) (N := ["one", "other", "found", "height", "mine", "its"]) (eN := fun _ => [none, none, none, none, none, none]) (mB := b_bar_of) F ⟨rfl, rfl, rfl, by decide +kernel, rfl, by decide +kernel, by decide +kernel⟩ hm hb hbl (by decide) rfl (fun _ _ => rfl) ?_
  intro cdv A outer s H E am e vs v_one v_other
  unfold b_bar_of
  exact (oss_lc (own := [("height", 3), ("mine", 4), ("its", 5)]) am 2 (fun (t3 : PyData × PyData × PyData) => [some (.dat v_one), some (.dat v_other), none, some (.dat t3.1), some (.dat t3.2.1), some (.dat t3.2.2)]) ([3] ++ ([4] ++ ([5] ++ []))) (oi_z3S am (ox_fz (om_sort am (ox_var 0))) (ox_call1 am g_runs_runs (by decide) (ox_var 0)) (ox_call1 am g_runs_runs (by decide) (ox_var 1))) (blkOk_by (by rfl)) (fun s H C cl fp am => (og_3 am (og_name 3 am) (fun _ => (og_name 4 am)) (fun _ _ => (og_name 5 am)))) (fun s H C cl fp t3 am => (ots_one (ot_ne am (ox_var 4) (ox_var 5)))) (fun s H C cl fp t3 am => (ox_var 3)) (fun v_found => (oss_fz 2 (oss_ret (ox_if (ot_gt (ox_len am (ox_var 2)) ox_int) (ox_ix (ox_var 2) ox_int) ox_non) trivial))))
def b_bar (v_one v_other : PyData) : Option (Fl Unit Unit Unit) := (Option.bind (Option.bind (some v_one) fun a1 => (Option.bind (some v_other) fun a2 => f_look_same a1 a2)) fun _ => (Option.map (fun v => Fl.rt v ()) (Option.bind (some v_one) fun a3 => (Option.bind (some v_other) fun a4 => f_bar_of a3 a4))))
def f_bar (v_one v_other : PyData) : OP := finF (b_bar v_one v_other)
theorem fn_bar {x : Str} (g_look_same : Fn P w K mg base "look_same" ["one", "other"] 2 (rel2 f_look_same)) (g_bar_of : Fn P w K mg base "bar_of" ["one", "other"] 6 (rel2 f_bar_of)) (F : Fun K "bar" "bar" (top 64) f fd) (hm : mg x = some (.ref f)) (hb : Binds K fd ["one", "other"] []) (hbl : ∀ x ∈ blts, mg x = none) : Fn P w K mg base x ["one", "other"] 7 (rel2 f_bar) := by
  refine Fn.of2 (k := 5) (N := ["one", "other"]) (eN := fun _ => [none, none]) (mB := b_bar) F ⟨rfl, rfl, rfl, by decide +kernel, rfl, by decide +kernel, by decide +kernel⟩ hm hb hbl (by decide) rfl (fun _ _ => rfl) ?_
  intro cdv A outer s H E am e vs v_one v_other
  unfold b_bar
  exact (oss_expr (ox_call2 am g_look_same (by decide) (ox_var 0) (ox_var 1)) (oss_ret (ox_call2 am g_bar_of (by decide) (ox_var 0) (ox_var 1)) trivial))
def b_leads (v_one v_other : PyData) : Option (Fl Unit Unit Unit) := (Option.map (fun v => Fl.rt v ()) (Option.map (fun a => PyData.bool (isNone a)) (Option.bind (some v_one) fun a1 => (Option.bind (some v_other) fun a2 => f_bar a1 a2))))
def f_leads (v_one v_other : PyData) : OP := finF (b_leads v_one v_other)
theorem fn_leads {x : Str} (g_bar : Fn P w K mg base "bar" ["one", "other"] 7 (rel2 f_bar)) (F : Fun K "leads" "leads" (top 65) f fd) (hm : mg x = some (.ref f)) (hb : Binds K fd ["one", "other"] []) (hbl : ∀ x ∈ blts, mg x = none) : Fn P w K mg base x ["one", "other"] 8 (rel2 f_leads) := by
  refine Fn.of2 (k := 6) (N := ["one", "other"]) (eN := fun _ => [none, none]) (mB := b_leads) F ⟨rfl, rfl, rfl, by decide +kernel, rfl, by decide +kernel, by decide +kernel⟩ hm hb hbl (by decide) rfl (fun _ _ => rfl) ?_
  intro cdv A outer s H E am e vs v_one v_other
  unfold b_leads
  exact (oss_ret (ox_isN (ox_call2 am g_bar (by decide) (ox_var 0) (ox_var 1))) trivial)
def b_look_leads (v_one v_other : PyData) : Option (Fl Unit Unit Unit) := (Option.bind (Option.bind (some v_one) fun a1 => (Option.bind (some v_other) fun a2 => f_bar a1 a2)) fun v_found => (Option.bind (Option.map (fun a => !isNone a) (some v_found)) fun a3 => bif a3 then none else (some (Fl.nx ()))))
def f_look_leads (v_one v_other : PyData) : OP := finF (b_look_leads v_one v_other)
theorem fn_look_leads {x : Str} (g_bar : Fn P w K mg base "bar" ["one", "other"] 7 (rel2 f_bar)) (F : Fun K "look_leads" "look_leads" (top 66) f fd) (hm : mg x = some (.ref f)) (hb : Binds K fd ["one", "other"] []) (hbl : ∀ x ∈ blts, mg x = none) : Fn P w K mg base x ["one", "other"] 8 (rel2 f_look_leads) := by
  refine Fn.of2 (k := 6) (N := ["one", "other", "found"]) (eN := fun _ => [none, none, none]) (mB := b_look_leads) F ⟨rfl, rfl, rfl, by decide +kernel, rfl, by decide +kernel, by decide +kernel⟩ hm hb hbl (by decide) rfl (fun _ _ => rfl) ?_
  intro cdv A outer s H E am e vs v_one v_other
  unfold b_look_leads
  exact (oss_let am 2 (ox_call2 am g_bar (by decide) (ox_var 0) (ox_var 1)) (fun v_found => (oss_ifN (ot_notN (ox_var 2)) (oss_nil [0, 1, 2]))))
def b_count_rows (v_row : PyData) : Option (Fl Unit Unit Unit) := (Option.bind (some (PyData.int 1)) fun v_found => (seqL (Option.bind (Option.bind (Option.bind (some v_row) f_runs) pIt) fun ds => loopF (unP some some) (fun (s1 : PyData) (t3 : PyData × PyData) => (Option.bind (Option.bind (Option.bind (Option.bind (some t3.2) fun a4 => Option.bind (some t3.1) fun b5 => pSub a4 b5) fun a6 => Option.bind (some (PyData.int 1)) fun b7 => pAdd a6 b7) fun b8 => iMul s1 b8) fun v_found => (some (Fl.nx v_found)))) ds v_found) fun (s1 : PyData) => (Option.map (fun v => Fl.rt v ()) (some s1))))
def f_count_rows (v_row : PyData) : OP := finF (b_count_rows v_row)
theorem fn_count_rows {x : Str} (g_runs_runs : Fn P w K mg base "runs_runs" ["row"] 5 (rel1 f_runs)) (F : Fun K "count_rows" "count_rows" (top 69) f fd) (hm : mg x = some (.ref f)) (hb : Binds K fd ["row"] []) (hbl : ∀ x ∈ blts, mg x = none) : Fn P w K mg base x ["row"] 6 (rel1 f_count_rows) := by
  refine Fn.of1 (k := 4) (N := ["row", "found", "first", "last"]) (eN := fun _ => [none, none, none, none]) (mB := b_count_rows) F ⟨rfl, rfl, rfl, by decide +kernel, rfl, by decide +kernel, by decide +kernel⟩ hm hb hbl (by decide) rfl (fun _ => rfl) ?_
  intro cdv A outer s H E am e vs v_row
  unfold b_count_rows
  exact (oss_let am 1 ox_int (fun v_found => (oss_for (eL := (fun (s1 : PyData) => [some (.dat v_row), some (.dat s1), none, none])) am v_found ([2] ++ ([3] ++ [])) (passes_of rfl) (oi_x am (ox_call1 am g_runs_runs (by decide) (ox_var 0))) (fun s1 => (og_2 am (og_name 2 am) (fun _ => (og_name 3 am)))) (fun s1 t3 => (oss_aug' am 1 (ox_add (ox_sub (ox_var 3) (ox_var 2)) ox_int) ip_mul ga_mul (fun v_found => (oss_nil [2, 3])))) (fun s1 => (oss_ret (ox_var 1) trivial)))))
def b_row_at (v_row v_number : PyData) : Option (Fl Unit Unit Unit) := (Option.bind (Option.map (!·) (Option.bind (some (PyData.int 0)) fun a => Option.bind (some v_number) fun b => Option.bind (Option.bind (some v_row) f_count_rows) fun c => pCh pLe pLt a b c)) fun a2 => bif a2 then none else (Option.bind (some []) fun v_found => (Option.bind (some v_number) fun v_rest => (seqL (Option.bind (Option.bind (Option.bind (Option.bind (some v_row) f_runs) pRev) pIt) fun ds => loopF (unP some some) (fun (s3 : List PyData × PyData) (t5 : PyData × PyData) => (Option.bind (Option.bind (Option.bind (some t5.2) fun a6 => Option.bind (some t5.1) fun b7 => pSub a6 b7) fun a8 => Option.bind (some (PyData.int 1)) fun b9 => pAdd a8 b9) fun v_size => (Option.bind (Option.bind (some t5.1) fun a12 => Option.bind (Option.bind (some s3.2) fun a10 => Option.bind (some v_size) fun b11 => pMod a10 b11) fun b13 => pAdd a12 b13) fun d14 => if List.length s3.1 < 16777216 then (Option.bind (Option.bind (some s3.2) fun a15 => Option.bind (some v_size) fun b16 => pDiv a15 b16) fun v_rest => (some (Fl.nx ((s3.1 ++ [d14]), v_rest)))) else none))) ds (v_found, v_rest)) fun (s3 : List PyData × PyData) => (Option.map (fun v => Fl.rt v ()) (Option.bind (some v_row) fun a17 => (Option.bind (Option.bind (some (PyData.list s3.1)) pRev) fun a18 => f_row_with a17 a18)))))))
def f_row_at (v_row v_number : PyData) : OP := finF (b_row_at v_row v_number)
theorem fn_row_at {x : Str} (g_count_rows : Fn P w K mg base "count_rows" ["row"] 6 (rel1 f_count_rows)) (g_runs_runs : Fn P w K mg base "runs_runs" ["row"] 5 (rel1 f_runs)) (g_row_with : Fn P w K mg base "row_with" ["row", "codes"] 2 (rel2 f_row_with)) (F : Fun K "row_at" "row_at" (top 70) f fd) (hm : mg x = some (.ref f)) (hb : Binds K fd ["row", "number"] []) (hbl : ∀ x ∈ blts, mg x = none) : Fn P w K mg base x ["row", "number"] 7 (rel2 f_row_at) := by
  refine Fn.of2 (k := 5) (N := ["row", "number", "found", "rest", "first", "last", "size"]) (eN := fun _ => [none, none, none, none, none, none, none]) (mB := b_row_at) F ⟨rfl, rfl, rfl, by decide +kernel, rfl, by decide +kernel, by decide +kernel⟩ hm hb hbl (by decide) rfl (fun _ _ => rfl) ?_
  intro cdv A outer s H E am e vs v_row v_number
  unfold b_row_at
  exact (oss_ifN (ot_not (ot_chain (fun i j => decide (i ≤ j)) (fun i j => decide (i < j)) op_le op_lt ch_le ch_lt ox_int (ox_var 1) (ox_call1 am g_count_rows (by decide) (ox_var 0)))) (oss_par Kd.ml Kd.dat am 2 3 om_lst0 (ox_var 1) (fun v_found v_rest => (oss_for (eL := (fun (s3 : List PyData × PyData) => [some (.dat v_row), some (.dat v_number), some (.ml s3.1), some (.dat s3.2), none, none, none])) am (v_found, v_rest) ([4] ++ ([5] ++ [])) (passes_of rfl) (oi_x am (ox_rev (ox_call1 am g_runs_runs (by decide) (ox_var 0)))) (fun s3 => (og_2 am (og_name 4 am) (fun _ => (og_name 5 am)))) (fun s3 t5 => (oss_let am 6 (ox_add (ox_sub (ox_var 5) (ox_var 4)) ox_int) (fun v_size => (oss_append 2 (ox_add (ox_var 4) (ox_mod (ox_var 3) (ox_var 6))) (fun d14 => (oss_let am 3 (ox_div (ox_var 3) (ox_var 6)) (fun v_rest => (oss_nil [4, 5, 6])))))))) (fun s3 => (oss_fz 2 (oss_ret (ox_call2 am g_row_with (by decide) (ox_var 0) (ox_rev (ox_var 2))) trivial)))))))
def b_number_of (v_row v_other : PyData) : Option (Fl Unit Unit Unit) := (Option.bind (Option.bind (some v_row) fun a1 => (Option.bind (some v_other) fun a2 => f_look_leads a1 a2)) fun _ => (Option.bind (some (PyData.int 0)) fun v_found => (seqL (Option.bind (Option.bind (Option.bind (some v_row) f_runs) fun a6 => Option.bind (Option.bind (some v_other) f_codes) fun b7 => pZ2 a6 b7) fun ds => loopF (unP (unP some some) some) (fun (s3 : PyData) (t8 : (PyData × PyData) × PyData) => (Option.bind (Option.bind (Option.bind (Option.bind (some s3) fun a13 => Option.bind (Option.bind (Option.bind (some t8.1.2) fun a9 => Option.bind (some t8.1.1) fun b10 => pSub a9 b10) fun a11 => Option.bind (some (PyData.int 1)) fun b12 => pAdd a11 b12) fun b14 => pMul a13 b14) fun a15 => Option.bind (some t8.2) fun b16 => pAdd a15 b16) fun a17 => Option.bind (some t8.1.1) fun b18 => pSub a17 b18) fun v_found => (some (Fl.nx v_found)))) ds v_found) fun (s3 : PyData) => (Option.map (fun v => Fl.rt v ()) (some s3)))))
def f_number_of (v_row v_other : PyData) : OP := finF (b_number_of v_row v_other)
theorem fn_number_of {x : Str} (g_look_leads : Fn P w K mg base "look_leads" ["one", "other"] 8 (rel2 f_look_leads)) (g_runs_runs : Fn P w K mg base "runs_runs" ["row"] 5 (rel1 f_runs)) (g_codes_codes : Fn P w K mg base "codes_codes" ["row"] 4 (rel1 f_codes)) (F : Fun K "number_of" "number_of" (top 71) f fd) (hm : mg x = some (.ref f)) (hb : Binds K fd ["row", "other"] []) (hbl : ∀ x ∈ blts, mg x = none) : Fn P w K mg base x ["row", "other"] 9 (rel2 f_number_of) := by
  refine Fn.of2 (k := 7) (N := ["row", "other", "found", "first", "last", "code"]) (eN := fun _ => [none, none, none, none, none, none]) (mB := b_number_of) F ⟨rfl, rfl, rfl, by decide +kernel, rfl, by decide +kernel, by decide +kernel⟩ hm hb hbl (by decide) rfl (fun _ _ => rfl) ?_
  intro cdv A outer s H E am e vs v_row v_other
  unfold b_number_of
  exact (oss_expr (ox_call2 am g_look_leads (by decide) (ox_var 0) (ox_var 1)) (oss_let am 2 ox_int (fun v_found => (oss_for (eL := (fun (s3 : PyData) => [some (.dat v_row), some (.dat v_other), some (.dat s3), none, none, none])) am v_found (([3] ++ ([4] ++ [])) ++ ([5] ++ [])) (passes_of rfl) (oi_z2S am (ox_call1 am g_runs_runs (by decide) (ox_var 0)) (ox_call1 am g_codes_codes (by decide) (ox_var 1))) (fun s3 => (og_2 am (og_2 am (og_name 3 am) (fun _ => (og_name 4 am))) (fun _ => (og_name 5 am)))) (fun s3 t8 => (oss_let am 2 (ox_sub (ox_add (ox_mul (ox_var 2) (ox_add (ox_sub (ox_var 4) (ox_var 3)) ox_int)) (ox_var 5)) (ox_var 3)) (fun v_found => (oss_nil [3, 4, 5])))) (fun s3 => (oss_ret (ox_var 2) trivial))))))
def b_all_rows (v_row : PyData) : Option (Fl Unit Unit Unit) := (Option.bind (Option.bind (some v_row) f_count_rows) fun v_many => (Option.bind (Option.bind (some v_many) fun a2 => Option.bind (some (PyData.int 300)) fun b3 => pGt a2 b3) fun a4 => bif a4 then none else (Option.map (fun v => Fl.rt v ()) (Option.map PyData.list (Option.bind (Option.bind (some v_many) fun a5 => pRg (PyData.int 0) a5) (compF some (fun (t6 : PyData) => (some true)) (fun (t6 : PyData) => (Option.bind (some v_row) fun a7 => (Option.bind (some t6) fun a8 => f_row_at a7 a8)))))))))
def f_all_rows (v_row : PyData) : OP := finF (b_all_rows v_row)
theorem fn_all_rows {x : Str} (g_count_rows : Fn P w K mg base "count_rows" ["row"] 6 (rel1 f_count_rows)) (g_row_at : Fn P w K mg base "row_at" ["row", "number"] 7 (rel2 f_row_at)) {t_MOST : Tok} (c_MOST : mg "MOST" = some (.int 300 t_MOST)) (F : Fun K "all_rows" "all_rows" (top 72) f fd) (hm : mg x = some (.ref f)) (hb : Binds K fd ["row"] []) (hbl : ∀ x ∈ blts, mg x = none) : Fn P w K mg base x ["row"] 8 (rel1 f_all_rows) := by
  refine Fn.of1 (k := 6) (N := ["row", "many", "number"]) (eN := fun _ => [none, none, none]) (mB := b_all_rows) F ⟨rfl, rfl, rfl, by decide +kernel, rfl, by decide +kernel, by decide +kernel⟩ hm hb hbl (by decide) rfl (fun _ => rfl) ?_
  intro cdv A outer s H E am e vs v_row
  unfold b_all_rows
  exact (oss_let am 1 (ox_call1 am g_count_rows (by decide) (ox_var 0)) (fun v_many => (oss_ifN (ot_gt (ox_var 1) (ox_gint c_MOST)) (oss_ret (ox_fz (om_lc (own := [("number", 2)]) am (fun (t6 : PyData) => [some (.dat v_row), some (.dat v_many), some (.dat t6)]) [2] (oi_rg1 am (ox_var 1)) (blkOk_by (by rfl)) (fun s H C cl fp am => (og_name 2 am)) (fun s H C cl fp t6 am => ots_nil) (fun s H C cl fp t6 am => (ox_call2 am g_row_at (by decide) (ox_var 0) (ox_var 2))))) trivial))))
def b__law_look (v_row v_i v_j : PyData) : Option (Fl Unit Unit Unit) := (Option.map (fun v => Fl.rt v ()) (Option.bind (Option.map PyData.list (Option.bind (Option.bind (Option.bind (some v_row) fun a => Option.bind (Option.map some (Option.bind (Option.bind (some v_i) fun a1 => Option.bind (some (PyData.int 1)) fun b2 => pAdd a1 b2) pInt)) fun i => Option.bind (Option.map some (Option.bind (some v_j) pInt)) fun j => pSl a i j) pIt) (compF some (fun (t3 : PyData) => (some true)) (fun (t3 : PyData) => (Option.bind (Option.bind (Option.map PyData.bool (Option.bind (some t3) fun a10 => Option.bind (Option.bind (some v_row) fun a8 => Option.bind (some v_i) fun b9 => pIx a8 b9) fun b11 => pLt a10 b11)) pB) fun a12 => bif a12 then Option.map PyData.bool (Option.bind (Option.map PyData.bool (Option.bind (some t3) fun a6 => Option.bind (Option.bind (some v_row) fun a4 => Option.bind (some v_j) fun b5 => pIx a4 b5) fun b7 => pLt a6 b7)) pB) else some (PyData.bool false)))))) pAll))
def f__law_look (v_row v_i v_j : PyData) : OP := finF (b__law_look v_row v_i v_j)
theorem fn__law_look {x : Str} (F : Fun K "_law_look" "_law_look" (top 82) f fd) (hm : mg x = some (.ref f)) (hb : Binds K fd ["row", "i", "j"] []) (hbl : ∀ x ∈ blts, mg x = none) : Fn P w K mg base x ["row", "i", "j"] 2 (rel3 f__law_look) := by
  refine Fn.of3 (k := 0) (N := ["row", "i", "j", "own"]) (eN := fun _ => [none, none, none, none]) (mB := b__law_look) F ⟨rfl, rfl, rfl, by decide +kernel, rfl, by decide +kernel, by decide +kernel⟩ hm hb hbl (by decide) rfl (fun _ _ _ => rfl) ?_
  intro cdv A outer s H E am e vs v_row v_i v_j
  unfold b__law_look
  exact (oss_ret (ox_all am (ox_fz (om_lc (own := [("own", 3)]) am (fun (t3 : PyData) => [some (.dat v_row), some (.dat v_i), some (.dat v_j), some (.dat t3)]) [3] (oi_x am (ox_sl (ox_var 0) (oq_so (ox_add (ox_var 1) ox_int)) (oq_so (ox_var 2)))) (blkOk_by (by rfl)) (fun s H C cl fp am => (og_name 3 am)) (fun s H C cl fp t3 am => ots_nil) (fun s H C cl fp t3 am => (ox_and (ox_lt (ox_var 3) (ox_ix (ox_var 0) (ox_var 1))) (ox_one (ox_lt (ox_var 3) (ox_ix (ox_var 0) (ox_var 2))))))))) trivial)
def b__law_swaps (v_row : PyData) : Option (Fl Unit Unit Unit) := (Option.bind (Option.map PyData.list (some [])) fun v_found => (seqL (Option.bind (Option.bind (Option.bind (some v_row) pLen) fun a2 => pRg (PyData.int 0) a2) fun ds => loopF some (fun (s1 : PyData) (t3 : PyData) => (Option.bind (Option.bind (some s1) fun a14 => Option.bind (Option.map PyData.list (Option.bind (Option.bind (Option.bind (some t3) fun a4 => Option.bind (some (PyData.int 2)) fun b5 => pAdd a4 b5) fun a6 => Option.bind (Option.bind (some v_row) pLen) fun b7 => pRg a6 b7) (compF some (fun (t8 : PyData) => (Option.bind (Option.bind (some v_row) fun a9 => (Option.bind (some t3) fun a10 => (Option.bind (some t8) fun a11 => f__law_look a9 a10 a11))) pB)) (fun (t8 : PyData) => (Option.bind (some t3) fun a12 => (Option.map (fun a13 => PyData.tuple [a12, a13]) (some t8))))))) fun b15 => pAdd a14 b15) fun v_found => (some (Fl.nx v_found)))) ds v_found) fun (s1 : PyData) => (Option.map (fun v => Fl.rt v ()) (some s1))))
def f__law_swaps (v_row : PyData) : OP := finF (b__law_swaps v_row)
theorem fn__law_swaps {x : Str} (g__law_look : Fn P w K mg base "_law_look" ["row", "i", "j"] 2 (rel3 f__law_look)) (F : Fun K "_law_swaps" "_law_swaps" (top 83) f fd) (hm : mg x = some (.ref f)) (hb : Binds K fd ["row"] []) (hbl : ∀ x ∈ blts, mg x = none) : Fn P w K mg base x ["row"] 3 (rel1 f__law_swaps) := by
  refine Fn.of1 (k := 1) (N := ["row", "found", "i", "j"]) (eN := fun _ => [none, none, none, none]) (mB := b__law_swaps) F ⟨rfl, rfl, rfl, by decide +kernel, rfl, by decide +kernel, by decide +kernel⟩ hm hb hbl (by decide) rfl (fun _ => rfl) ?_
  intro cdv A outer s H E am e vs v_row
  unfold b__law_swaps
  exact (oss_let am 1 (ox_fz om_lst0) (fun v_found => (oss_for (eL := (fun (s1 : PyData) => [some (.dat v_row), some (.dat s1), none, none])) am v_found [2] (passes_of rfl) (oi_rg1 am (ox_len am (ox_var 0))) (fun s1 => (og_name 2 am)) (fun s1 t3 => (oss_let am 1 (ox_add (ox_var 1) (ox_fz (om_lc (own := [("j", 3)]) am (fun (t8 : PyData) => [some (.dat v_row), some (.dat s1), some (.dat t3), some (.dat t8)]) [3] (oi_rg2 am (ox_add (ox_var 2) ox_int) (ox_len am (ox_var 0))) (blkOk_by (by rfl)) (fun s H C cl fp am => (og_name 3 am)) (fun s H C cl fp t8 am => (ots_one (ot_val (ox_call3 am g__law_look (by decide) (ox_var 0) (ox_var 2) (ox_var 3))))) (fun s H C cl fp t8 am => (ox_tup2 (ox_var 2) (ox_var 3)))))) (fun v_found => (oss_nil [2])))) (fun s1 => (oss_ret (ox_var 1) trivial)))))
def b__law_swap (v_row v_pair : PyData) : Option (Fl Unit Unit Unit) := (Option.bind (Option.bind (some v_pair) (unP some some)) fun (t1 : PyData × PyData) => (Option.map (fun v => Fl.rt v ()) (Option.bind (Option.bind (Option.bind (Option.bind (Option.bind (some v_row) fun a => Option.bind (some none) fun i => Option.bind (Option.map some (Option.bind (some t1.1) pInt)) fun j => pSl a i j) fun a5 => Option.bind (Option.map (fun a4 => PyData.tuple [a4]) (Option.bind (some v_row) fun a2 => Option.bind (some t1.2) fun b3 => pIx a2 b3)) fun b6 => pAdd a5 b6) fun a9 => Option.bind (Option.bind (some v_row) fun a => Option.bind (Option.map some (Option.bind (Option.bind (some t1.1) fun a7 => Option.bind (some (PyData.int 1)) fun b8 => pAdd a7 b8) pInt)) fun i => Option.bind (Option.map some (Option.bind (some t1.2) pInt)) fun j => pSl a i j) fun b10 => pAdd a9 b10) fun a14 => Option.bind (Option.map (fun a13 => PyData.tuple [a13]) (Option.bind (some v_row) fun a11 => Option.bind (some t1.1) fun b12 => pIx a11 b12)) fun b15 => pAdd a14 b15) fun a18 => Option.bind (Option.bind (some v_row) fun a => Option.bind (Option.map some (Option.bind (Option.bind (some t1.2) fun a16 => Option.bind (some (PyData.int 1)) fun b17 => pAdd a16 b17) pInt)) fun i => Option.bind (some none) fun j => pSl a i j) fun b19 => pAdd a18 b19)))
def f__law_swap (v_row v_pair : PyData) : OP := finF (b__law_swap v_row v_pair)
theorem fn__law_swap {x : Str} (F : Fun K "_law_swap" "_law_swap" (top 84) f fd) (hm : mg x = some (.ref f)) (hb : Binds K fd ["row", "pair"] []) (hbl : ∀ x ∈ blts, mg x = none) : Fn P w K mg base x ["row", "pair"] 2 (rel2 f__law_swap) := by
  refine Fn.of2 (k := 0) (N := ["row", "pair", "i", "j"]) (eN := fun _ => [none, none, none, none]) (mB := b__law_swap) F ⟨rfl, rfl, rfl, by decide +kernel, rfl, by decide +kernel, by decide +kernel⟩ hm hb hbl (by decide) rfl (fun _ _ => rfl) ?_
  intro cdv A outer s H E am e vs v_row v_pair
  unfold b__law_swap
  exact (oss_asg (ox_var 1) (og_2 am (og_name 2 am) (fun _ => (og_name 3 am))) (fun t1 => (oss_ret (ox_add (ox_add (ox_add (ox_add (ox_sl (ox_var 0) oq_no (oq_so (ox_var 2))) (ox_tup1 (ox_ix (ox_var 0) (ox_var 3)))) (ox_sl (ox_var 0) (oq_so (ox_add (ox_var 2) ox_int)) (oq_so (ox_var 3)))) (ox_tup1 (ox_ix (ox_var 0) (ox_var 2)))) (ox_sl (ox_var 0) (oq_so (ox_add (ox_var 3) ox_int)) oq_no)) trivial)))
def b__law_every (v_many : PyData) : Option (Fl Unit Unit Unit) := (Option.bind (Option.map PyData.list (Option.map (fun a => [a]) (some (PyData.tuple [])))) fun v_found => (seqL (Option.bind (Option.bind (some v_many) fun a2 => Option.bind (some (PyData.int 0)) fun b3 => pRgD a2 b3) fun ds => loopF some (fun (s1 : PyData) (t4 : PyData) => (Option.bind (Option.map PyData.list (some [])) fun v_later => (seqL (Option.bind (Option.bind (some s1) pIt) fun ds => loopF some (fun (s5 : PyData) (t6 : PyData) => (Option.bind (Option.bind (some s5) fun a16 => Option.bind (Option.map PyData.list (Option.bind (Option.bind (Option.bind (Option.bind (some t6) pLen) fun a7 => Option.bind (some (PyData.int 1)) fun b8 => pAdd a7 b8) fun a9 => pRg (PyData.int 0) a9) (compF some (fun (t10 : PyData) => (some true)) (fun (t10 : PyData) => (Option.bind (Option.bind (Option.bind (some t6) fun a => Option.bind (some none) fun i => Option.bind (Option.map some (Option.bind (some t10) pInt)) fun j => pSl a i j) fun a12 => Option.bind (Option.map (fun a11 => PyData.tuple [a11]) (some t4)) fun b13 => pAdd a12 b13) fun a14 => Option.bind (Option.bind (some t6) fun a => Option.bind (Option.map some (Option.bind (some t10) pInt)) fun i => Option.bind (some none) fun j => pSl a i j) fun b15 => pAdd a14 b15))))) fun b17 => pAdd a16 b17) fun v_later => (some (Fl.nx v_later)))) ds v_later) fun (s5 : PyData) => (Option.bind (some s5) fun v_found => (some (Fl.nx v_found)))))) ds v_found) fun (s1 : PyData) => (Option.map (fun v => Fl.rt v ()) (Option.map PyData.list (Option.bind (some s1) pSort)))))
def f__law_every (v_many : PyData) : OP := finF (b__law_every v_many)
theorem fn__law_every {x : Str} (F : Fun K "_law_every" "_law_every" (top 85) f fd) (hm : mg x = some (.ref f)) (hb : Binds K fd ["many"] []) (hbl : ∀ x ∈ blts, mg x = none) : Fn P w K mg base x ["many"] 2 (rel1 f__law_every) := by
  refine Fn.of1 (k := 0) (N := ["many", "found", "height", "later", "row", "k"]) (eN := fun _ => [none, none, none, none, none, none]) (mB := b__law_every) F ⟨rfl, rfl, rfl, by decide +kernel, rfl, by decide +kernel, by decide +kernel⟩ hm hb hbl (by decide) rfl (fun _ => rfl) ?_
  intro cdv A outer s H E am e vs v_many
  unfold b__law_every
  exact (oss_let am 1 (ox_fz (om_lst1 ox_tup0)) (fun v_found => (oss_for (eL := (fun (s1 : PyData) => [some (.dat v_many), some (.dat s1), none, none, none, none])) am v_found [2] (passes_of rfl) (oi_rgD am (ox_var 0) ox_int) (fun s1 => (og_name 2 am)) (fun s1 t4 => (oss_let am 3 (ox_fz om_lst0) (fun v_later => (oss_for (eL := (fun (s5 : PyData) => [some (.dat v_many), some (.dat s1), some (.dat t4), some (.dat s5), none, none])) am v_later [4] (passes_of rfl) (oi_x am (ox_var 1)) (fun s5 => (og_name 4 am)) (fun s5 t6 => (oss_let am 3 (ox_add (ox_var 3) (ox_fz (om_lc (own := [("k", 5)]) am (fun (t10 : PyData) => [some (.dat v_many), some (.dat s1), some (.dat t4), some (.dat s5), some (.dat t6), some (.dat t10)]) [5] (oi_rg1 am (ox_add (ox_len am (ox_var 4)) ox_int)) (blkOk_by (by rfl)) (fun s H C cl fp am => (og_name 5 am)) (fun s H C cl fp t10 am => ots_nil) (fun s H C cl fp t10 am => (ox_add (ox_add (ox_sl (ox_var 4) oq_no (oq_so (ox_var 5))) (ox_tup1 (ox_var 2))) (ox_sl (ox_var 4) (oq_so (ox_var 5)) oq_no)))))) (fun v_later => (oss_nil [4])))) (fun s5 => (oss_let am 1 (ox_var 3) (fun v_found => (oss_nil [2, 3])))))))) (fun s1 => (oss_ret (ox_fz (om_sort am (ox_var 1))) trivial)))))
def b__law_classes (v_every v_place : PyData) : Option (Fl Unit Unit Unit) := (Option.bind (some []) fun v_found => (Option.bind (Option.bind (some v_every) pIt) fun v_left_so => (seqL (Option.bind (Option.bind (Option.bind (some v_every) pLen) fun a2 => pRg (PyData.int 0) a2) fun ds => loopF some (fun (s1 : List PyData × PyData) (t3 : PyData) => (Option.bind (Option.bind (some s1.2) fun a4 => Option.bind (Option.map PyData.list (some [])) fun b5 => pEq a4 b5) fun a6 => bif a6 then seqF (σ1 := Empty) (some (Fl.bk (s1.1, s1.2))) (fun s => s.elim) else (Option.bind (Option.map (fun a => [a]) (Option.bind (some s1.2) fun a7 => Option.bind (some (PyData.int 0)) fun b8 => pIx a7 b8)) fun v_home => (Option.bind (Option.map (fun a => [a]) (Option.bind (some s1.2) fun a9 => Option.bind (some (PyData.int 0)) fun b10 => pIx a9 b10)) fun v_more => (seqL (Option.bind (Option.bind (Option.bind (some v_every) pLen) fun a12 => pRg (PyData.int 0) a12) fun ds => loopF some (fun (s11 : List PyData × PyData) (t13 : PyData) => (Option.bind (some []) fun v_later => (seqL (Option.bind (Option.bind (some s11.2) pIt) fun ds => loopF some (fun (s14 : List PyData × List PyData) (t15 : PyData) => (Option.bind (Option.bind (Option.bind (some t15) f__law_swaps) fun a22 => Option.bind (Option.bind (Option.bind (some (PyData.int 0)) fun a => Option.bind (some v_place) fun b => Option.bind (Option.bind (some t15) pLen) fun c => pCh pLt pLt a b c) fun a21 => bif a21 then (Option.map PyData.list (Option.map (fun a => [a]) (Option.bind (Option.bind (some v_place) fun a17 => Option.bind (some (PyData.int 1)) fun b18 => pSub a17 b18) fun a19 => (Option.map (fun a20 => PyData.tuple [a19, a20]) (some v_place))))) else (Option.map PyData.list (some []))) fun b23 => pAdd a22 b23) fun v_pairs => (seqL (Option.bind (Option.bind (some v_pairs) pIt) fun ds => loopF some (fun (s24 : List PyData × List PyData) (t25 : PyData) => (Option.bind (Option.bind (some t15) fun a26 => (Option.bind (some t25) fun a27 => f__law_swap a26 a27)) fun v_other => (seqF (Option.bind (Option.map (!·) (Option.bind (some v_other) fun a28 => Option.bind (some (PyData.list s24.1)) fun b29 => pIn a28 b29)) fun a30 => bif a30 then (Option.bind (some v_other) fun d32 => if List.length s24.1 < 16777216 then (Option.bind (some v_other) fun d33 => if List.length s24.2 < 16777216 then (some (Fl.nx ((s24.1 ++ [d32]), (s24.2 ++ [d33])))) else none) else none) else (some (Fl.nx (s24.1, s24.2)))) fun (s31 : List PyData × List PyData) => (some (Fl.nx (s31.1, s31.2)))))) ds (s14.1, s14.2)) fun (s24 : List PyData × List PyData) => (some (Fl.nx (s24.1, s24.2)))))) ds (s11.1, v_later)) fun (s14 : List PyData × List PyData) => (Option.bind (some (PyData.list s14.2)) fun v_more => (some (Fl.nx (s14.1, v_more))))))) ds (v_home, (PyData.list v_more))) fun (s11 : List PyData × PyData) => (Option.bind (some (PyData.list s11.1)) fun d34 => if List.length s1.1 < 16777216 then (Option.bind (Option.bind (Option.bind (some s1.2) pIt) (compF some (fun (t35 : PyData) => (Option.map (!·) (Option.bind (some t35) fun a36 => Option.bind (some (PyData.list s11.1)) fun b37 => pIn a36 b37))) (fun (t35 : PyData) => (some t35)))) fun v_left_so => (some (Fl.nx ((s1.1 ++ [d34]), (PyData.list v_left_so))))) else none)))))) ds (v_found, (PyData.list v_left_so))) fun (s1 : List PyData × PyData) => (Option.map (fun v => Fl.rt v ()) (some (PyData.list s1.1))))))
def f__law_classes (v_every v_place : PyData) : OP := finF (b__law_classes v_every v_place)
theorem fn__law_classes {x : Str} (g__law_swaps : Fn P w K mg base "_law_swaps" ["row"] 3 (rel1 f__law_swaps)) (g__law_swap : Fn P w K mg base "_law_swap" ["row", "pair"] 2 (rel2 f__law_swap)) (F : Fun K "_law_classes" "_law_classes" (top 86) f fd) (hm : mg x = some (.ref f)) (hb : Binds K fd ["every", "place"] []) (hbl : ∀ x ∈ blts, mg x = none) : Fn P w K mg base x ["every", "place"] 4 (rel2 f__law_classes) := by
  refine Fn.of2 (k := 2) (N := ["every", "place", "found", "left_so", "lap", "home", "more", "turn", "later", "row", "pairs", "pair", "other"]) (eN := fun _ => [none, none, none, none, none, none, none, none, none, none, none, none, none]) (mB := b__law_classes) F ⟨rfl, rfl, rfl, by decide +kernel, rfl, by decide +kernel, by decide +kernel⟩ hm hb hbl (by decide) rfl (fun _ _ => rfl) ?_
  intro cdv A outer s H E am e vs v_every v_place
  unfold b__law_classes
  exact (oss_par Kd.ml Kd.ml am 2 3 om_lst0 (ox_list am (ox_var 0)) (fun v_found v_left_so => (oss_fz 3 (oss_for (eL := (fun (s1 : List PyData × PyData) => [some (.dat v_every), some (.dat v_place), some (.ml s1.1), some (.dat s1.2), none, none, none, none, none, none, none, none, none])) am (v_found, (PyData.list v_left_so)) [4] (passes_of rfl) (oi_rg1 am (ox_len am (ox_var 0))) (fun s1 => (og_name 4 am)) (fun s1 t3 => (oss_ifR (ot_eq am (ox_var 3) (ox_fz om_lst0)) (oss_break [4]) (oss_parT Kd.ml Kd.ml am 5 6 (om_lst1 (ox_ix (ox_var 3) ox_int)) (om_lst1 (ox_ix (ox_var 3) ox_int)) (fun v_home v_more => (oss_fz 6 (oss_for (eL := (fun (s11 : List PyData × PyData) => [some (.dat v_every), some (.dat v_place), some (.ml s1.1), some (.dat s1.2), some (.dat t3), some (.ml s11.1), some (.dat s11.2), none, none, none, none, none, none])) am (v_home, (PyData.list v_more)) [7] (passes_of rfl) (oi_rg1 am (ox_len am (ox_var 0))) (fun s11 => (og_name 7 am)) (fun s11 t13 => (oss_letM am 8 om_lst0 (fun v_later => (oss_for (eL := (fun (s14 : List PyData × List PyData) => [some (.dat v_every), some (.dat v_place), some (.ml s1.1), some (.dat s1.2), some (.dat t3), some (.ml s14.1), some (.dat s11.2), some (.dat t13), some (.ml s14.2), none, none, none, none])) am (s11.1, v_later) [9] (passes_of rfl) (oi_x am (ox_var 6)) (fun s14 => (og_name 9 am)) (fun s14 t15 => (oss_let am 10 (ox_add (ox_call1 am g__law_swaps (by decide) (ox_var 9)) (ox_if (ot_chain (fun i j => decide (i < j)) (fun i j => decide (i < j)) op_lt op_lt ch_lt ch_lt ox_int (ox_var 1) (ox_len am (ox_var 9))) (ox_fz (om_lst1 (ox_tup2 (ox_sub (ox_var 1) ox_int) (ox_var 1)))) (ox_fz om_lst0))) (fun v_pairs => (oss_for (eL := (fun (s24 : List PyData × List PyData) => [some (.dat v_every), some (.dat v_place), some (.ml s1.1), some (.dat s1.2), some (.dat t3), some (.ml s24.1), some (.dat s11.2), some (.dat t13), some (.ml s24.2), some (.dat t15), some (.dat v_pairs), none, none])) am (s14.1, s14.2) [11] (passes_of rfl) (oi_x am (ox_var 10)) (fun s24 => (og_name 11 am)) (fun s24 t25 => (oss_let am 12 (ox_call2 am g__law_swap (by decide) (ox_var 9) (ox_var 11)) (fun v_other => (oss_if (eM := (fun (s31 : List PyData × List PyData) => [some (.dat v_every), some (.dat v_place), some (.ml s1.1), some (.dat s1.2), some (.dat t3), some (.ml s31.1), some (.dat s11.2), some (.dat t13), some (.ml s31.2), some (.dat t15), some (.dat v_pairs), some (.dat t25), some (.dat v_other)])) (ot_lend fun e => (ot_notIn am (ox_var 12) (ox_var 5))) (oss_append 5 (ox_var 12) (fun d32 => (oss_append 8 (ox_var 12) (fun d33 => (oss_nil []))))) (oss_nil []) (fun s31 => (oss_nil [11, 12])))))) (fun s24 => (oss_nil [9, 10])))))) (fun s14 => (oss_fz 8 (oss_let am 6 (ox_var 8) (fun v_more => (oss_nil [7, 8]))))))))) (fun s11 => (oss_fz 5 (oss_append 2 (ox_var 5) (fun d34 => (oss_lc (own := [("row", 9)]) am 3 (fun (t35 : PyData) => [some (.dat v_every), some (.dat v_place), some (.ml (s1.1 ++ [d34])), some (.dat s1.2), some (.dat t3), some (.dat (PyData.list s11.1)), some (.dat s11.2), none, none, some (.dat t35), none, none, none]) [9] (oi_x am (ox_var 3)) (blkOk_by (by rfl)) (fun s H C cl fp am => (og_name 9 am)) (fun s H C cl fp t35 am => (ots_one (ot_notIn am (ox_var 9) (ox_var 5)))) (fun s H C cl fp t35 am => (ox_var 9)) (fun v_left_so => (oss_fz 3 (oss_nil [4, 5, 6])))))))))))))) (fun s1 => (oss_fz 2 (oss_ret (ox_var 2) trivial)))))))
end
end Ov
set_option Elab.async false
set_option linter.all false
set_option maxRecDepth 100000
set_option maxHeartbeats 4000000
namespace Ov
open PySem PySem.Spec PyProof.Rows L2
/-! ### the line -/
abbrev LN : List Str := ["own_rows", "own_log"]
abbrev lnK (C : Addr) (rows log : List PyData) : Kd := .ob C LN [.ml rows, .ml log]
def relLI (C : Addr) : Rel := fun ks ks' r => ∃ ds, ks = [.ob C [] [], .dat (.tuple ds)] ∧ ks' = [lnK C [.tuple ds] [], .dat (.tuple ds)] ∧ r = .ret (.dat .none)
def relLR (C : Addr) : Rel := fun ks ks' r => ∃ κ κ2 rows d, MlK κ rows ∧ atI rows (-1) = some d ∧ ks = [.ob C LN [κ, κ2]] ∧ ks' = [.ob C LN [κ, κ2]] ∧ r = .ret (.dat d)
/-- a method that looks at the row only -/
def relLf (C : Addr) (m : PyData → OP) : Rel := fun ks ks' r => ∃ rows log d v, atI rows (-1) = some d ∧ m d = some v ∧ ks = [lnK C rows log] ∧ ks' = [lnK C rows log] ∧ r = .ret (.dat v)
def lIn (x : Str) : PyData := .tuple [.str "in", .str x]
def lOut (x : Str) : PyData := .tuple [.str "out", .str x]
def relLC (C : Addr) (m : PyData → PyData → PyData → OP) : Rel := fun ks ks' r => ∃ rows log d h p later n, atI rows (-1) = some d ∧ m d p h = some later ∧ pLen d = some (.int n) ∧ 0 ≤ n ∧ n < 16 ∧ rows.length < 1000 ∧ log.length < 1000 ∧
  pLen later = some (.int (n + 1)) ∧ ks = [lnK C rows log, .dat h, .dat p] ∧ ks' = [lnK C (rows ++ [later]) (log ++ [lIn "come"] ++ [lOut "come"]), .dat h, .dat p] ∧ r = .ret (.dat (.int (n + 1)))
def relLL (C : Addr) (mp mw : PyData → PyData → OP) : Rel := fun ks ks' r => ∃ rows log d h p later, atI rows (-1) = some d ∧ mp d h = some p ∧ mw d h = some later ∧ rows.length < 1000 ∧ log.length < 1000 ∧
  ks = [lnK C rows log, .dat h] ∧ ks' = [lnK C (rows ++ [later]) (log ++ [lIn "leave"] ++ [lOut "leave"]), .dat h] ∧ r = .ret (.dat p)
abbrev sL (i : Nat) : Stmt := inClass (top 75) i
section
variable {P : Program} {w : World} {K : PySem.W.Frag} {mg : Str → Option Value} {base : Heap} {f C : Addr} {fd : FuncData}
structure LTx (K : PySem.W.Frag) (C : Addr) : Prop where
  c : Cls K C
  n1 : NoAttr K C "own_rows"
  n2 : NoAttr K C "own_log"
theorem l_init (T : LTx K C) {dvs : List V} {kws : List (Str × V)} (F : FunD K "__init__" "Line.__init__" (defArgs (sL 0)) (defBody (sL 0)) (defScope (sL 0)) dvs kws f fd) (hm : Mk K C f) (hb : Binds K fd ["self", "row"] []) (hbl : ∀ x ∈ blts, mg x = none) : Ini P w K mg base C ["self", "row"] 2 (relLI C) := by
  refine Ini.ofD (kk := 1) (N := ["self", "row"]) F ⟨rfl, rfl, rfl, by decide +kernel, rfl, by decide +kernel, by decide +kernel⟩ hm hb ?_ ?_
  · rintro ks ks' r ⟨ds, rfl, rfl, rfl⟩
    exact ⟨rfl, by simp [keepD]⟩
  · rintro cdv A outer s H E hr e vs ks ks' r ⟨ds, rfl, rfl, rfl⟩
    have am := am_of (P := P) (w := w) (K := K) (mg := mg) (base := base) (N := ["self", "row"]) (qual := "Line.__init__") (st := sL 0) (f := f) (cdv := cdv) (outer := outer) (H := H) (E := E) (by decide) hbl hr
    refine dss_fldN 0 T.c T.n1 (OM.dx (om_lst1 (ox_tuple am (ox_var 1))) rfl) ?_
    refine dss_fldN 0 T.c T.n2 (OM.dx om_lst0 rfl) ?_
    exact dss_nil ⟨rfl, fin0 rfl⟩
theorem l_row (T : LTx K C) (F : Fun K "row" "Line.row" (sL 1) f fd) (hm : Meth K C "row" f) (hb : Binds K fd ["self"] []) (hbl : ∀ x ∈ blts, mg x = none) : Mth P w K mg base C "row" ["self"] 2 (relLR C) := by
  refine Mth.of (kk := 1) (N := ["self"]) F ⟨rfl, rfl, rfl, by decide +kernel, rfl, by decide +kernel, by decide +kernel⟩ hm hb ?_ ?_
  · rintro ks ks' r ⟨κ, κ2, rows, d, _, _, rfl, rfl, rfl⟩
    exact ⟨rfl, by simp [keepD]⟩
  · rintro cdv A outer s H E hr e vs ks ks' r ⟨κ, κ2, rows, d, hκ, h, rfl, rfl, rfl⟩
    exact dss_ret (dx_fldIx 0 0 T.c T.n1 hκ (fun u => OX.dx (ox_neg ox_int) rfl) h) ⟨rfl, fin0 rfl⟩
theorem atI_last {ds : List PyData} {d : PyData} : atI (ds ++ [d]) (-1) = some d := by
  unfold atI ixN
  have h1 : (1 : Int) ≤ (ds.length : Int) + 1 := by omega
  have h2 : (-1 + ((ds.length : Int) + 1)).toNat = ds.length := by omega
  simp [h1, h2]
theorem l_count (T : LTx K C) (GR : Mth P w K mg base C "row" ["self"] 2 (relLR C)) (g_count_rows : Fn P w K mg base "count_rows" ["row"] 6 (rel1 f_count_rows)) (F : Fun K "count" "Line.count" (sL 10) f fd) (hm : Meth K C "count" f) (hb : Binds K fd ["self"] []) (hbl : ∀ x ∈ blts, mg x = none) : Mth P w K mg base C "count" ["self"] 7 (relLf C f_count_rows) := by
  refine Mth.of (kk := 6) (N := ["self"]) F ⟨rfl, rfl, rfl, by decide +kernel, rfl, by decide +kernel, by decide +kernel⟩ hm hb ?_ ?_
  · rintro ks ks' r ⟨rows, log, d, v, _, _, rfl, rfl, rfl⟩
    exact ⟨rfl, by simp [keepD]⟩
  · rintro cdv A outer s H E hr e vs ks ks' r ⟨rows, log, d, v, h1, h2, rfl, rfl, rfl⟩
    have am := am_of (P := P) (w := w) (K := K) (mg := mg) (base := base) (N := ["self"]) (qual := "Line.count") (st := sL 10) (f := f) (cdv := cdv) (outer := outer) (H := H) (E := E) (by decide) hbl hr
    exact dss_ret (OX.dx (ox_call1 am g_count_rows (by decide) (OX.of (dx_meth0S 0 T.c GR (am.room.mono (by decide)) ⟨.ml rows, .ml (log), rows, d, MlK.ml, h1, rfl, rfl, rfl⟩))) h2) ⟨rfl, fin0 rfl⟩
theorem l_len (T : LTx K C) (GR : Mth P w K mg base C "row" ["self"] 2 (relLR C)) (F : Fun K "__len__" "Line.__len__" (sL 17) f fd) (hm : Meth K C "__len__" f) (hb : Binds K fd ["self"] []) (hbl : ∀ x ∈ blts, mg x = none) : Mth P w K mg base C "__len__" ["self"] 3 (relLf C pLen) := by
  refine Mth.of (kk := 2) (N := ["self"]) F ⟨rfl, rfl, rfl, by decide +kernel, rfl, by decide +kernel, by decide +kernel⟩ hm hb ?_ ?_
  · rintro ks ks' r ⟨rows, log, d, v, _, _, rfl, rfl, rfl⟩
    exact ⟨rfl, by simp [keepD]⟩
  · rintro cdv A outer s H E hr e vs ks ks' r ⟨rows, log, d, v, h1, h2, rfl, rfl, rfl⟩
    have am := am_of (P := P) (w := w) (K := K) (mg := mg) (base := base) (N := ["self"]) (qual := "Line.__len__") (st := sL 17) (f := f) (cdv := cdv) (outer := outer) (H := H) (E := E) (by decide) hbl hr
    exact dss_ret (OX.dx (ox_len am (OX.of (dx_meth0S 0 T.c GR (am.room.mono (by decide)) ⟨.ml rows, .ml (log), rows, d, MlK.ml, h1, rfl, rfl, rfl⟩))) h2) ⟨rfl, fin0 rfl⟩
theorem l_come (T : LTx K C) (GR : Mth P w K mg base C "row" ["self"] 2 (relLR C)) (GL : Mth P w K mg base C "__len__" ["self"] 3 (relLf C pLen)) (g_with_person : Fn P w K mg base "with_person" ["row", "place", "height"] 2 (rel3 f_with_person)) {tM : Tok} (c_MOST_PEOPLE : mg "MOST_PEOPLE" = some (.int 16 tM))
    (F : Fun K "come" "Line.come" (sL 4) f fd) (hm : Meth K C "come" f) (hb : Binds K fd ["self", "height", "place"] []) (hbl : ∀ x ∈ blts, mg x = none) : Mth P w K mg base C "come" ["self", "height", "place"] 5 (relLC C f_with_person) := by
  refine Mth.of (kk := 4) (N := ["self", "height", "place", "later"]) F ⟨rfl, rfl, rfl, by decide +kernel, rfl, by decide +kernel, by decide +kernel⟩ hm hb ?_ ?_
  · rintro ks ks' r ⟨rows, log, d, h, p, later, n, _, _, _, _, _, _, _, _, rfl, rfl, rfl⟩
    exact ⟨rfl, by simp [keepD]⟩
  · rintro cdv A outer s H E hr e vs ks ks' r ⟨rows, log, d, h, p, later, n, h1, h2, h3, h30, h4, h5, h6, h7, rfl, rfl, rfl⟩
    have am := am_of (P := P) (w := w) (K := K) (mg := mg) (base := base) (N := ["self", "height", "place", "later"]) (qual := "Line.come") (st := sL 4) (f := f) (cdv := cdv) (outer := outer) (H := H) (E := E) (by decide) hbl hr
    refine dss_expr (dx_fldM (ds := log) 0 1 T.c T.n2 PySem.F.plainAttrs_list PySem.F.slot_list_append PySem.F.type_list_append mt_append (fun u => da_cons (OX.dx (ox_tup2 ox_str ox_str) rfl) da_nil) (rml_append (by rw [sizeLine_eq]; omega))) ?_
    refine dss_try (ρ1 := [some (lnK C (rows ++ [later]) (log ++ [lIn "come"])), some (.dat h), some (.dat p), some (.dat later)]) (ρ2 := [some (lnK C (rows ++ [later]) (log ++ [lIn "come"] ++ [lOut "come"])), some (.dat h), some (.dat p), some (.dat later)]) ?_ ?_ ?_
    · refine dss_set 3 (OX.dx (ox_call3 am.nox g_with_person (by decide) (OX.of (dx_meth0S 0 T.c GR (am.nox.room.mono (by decide)) ⟨.ml rows, .ml (log ++ [lIn "come"]), rows, d, MlK.ml, h1, rfl, rfl, rfl⟩)) (ox_var 2) (ox_var 1)) h2) ?_ am.nod (hi := by simp [rho0])
      refine dss_ifR (b := false) (OT.dt (ot_ge (OX.of (dx_lenS (n := n) 0 GL (am.nox.room.mono (by decide)) (hbl _ (by decide)) ⟨rows, log ++ [lIn "come"], d, .int n, h1, h3, rfl, rfl, rfl⟩ ⟨h30, by omega⟩)) (ox_gint c_MOST_PEOPLE)) (by simp [pGe]; omega)) (fun z => nomatch z) fun _ => ?_
      refine dss_expr (dx_fldM (ds := rows) 0 0 T.c T.n1 PySem.F.plainAttrs_list PySem.F.slot_list_append PySem.F.type_list_append mt_append (fun u => da_cons (OX.dx (ox_var 3) rfl) da_nil) (rml_append (by rw [sizeLine_eq]; omega))) ?_
      exact dss_nil rfl
    · refine dss_expr (dx_fldM (ds := log ++ [lIn "come"]) 0 1 T.c T.n2 PySem.F.plainAttrs_list PySem.F.slot_list_append PySem.F.type_list_append mt_append (fun u => da_cons (OX.dx (ox_tup2 ox_str ox_str) rfl) da_nil) (rml_append (by rw [sizeLine_eq]; simp; omega))) ?_
      exact dss_nil rfl
    · exact dss_ret (dx_lenS (n := n + 1) 0 GL (am.room.mono (by decide)) (hbl _ (by decide)) ⟨rows ++ [later], log ++ [lIn "come"] ++ [lOut "come"], later, .int (n + 1), atI_last, h7, rfl, rfl, rfl⟩ ⟨by omega, by omega⟩) ⟨rfl, fin0 rfl⟩
theorem l_leave (T : LTx K C) (GR : Mth P w K mg base C "row" ["self"] 2 (relLR C)) (g_place_of : Fn P w K mg base "place_of" ["row", "height"] 2 (rel2 f_place_of)) (g_without : Fn P w K mg base "without" ["row", "height"] 3 (rel2 f_without))
    (F : Fun K "leave" "Line.leave" (sL 5) f fd) (hm : Meth K C "leave" f) (hb : Binds K fd ["self", "height"] []) (hbl : ∀ x ∈ blts, mg x = none) : Mth P w K mg base C "leave" ["self", "height"] 4 (relLL C f_place_of f_without) := by
  refine Mth.of (kk := 3) (N := ["self", "height", "place"]) F ⟨rfl, rfl, rfl, by decide +kernel, rfl, by decide +kernel, by decide +kernel⟩ hm hb ?_ ?_
  · rintro ks ks' r ⟨rows, log, d, h, p, later, _, _, _, _, _, rfl, rfl, rfl⟩
    exact ⟨rfl, by simp [keepD]⟩
  · rintro cdv A outer s H E hr e vs ks ks' r ⟨rows, log, d, h, p, later, h1, h2, h3, h5, h6, rfl, rfl, rfl⟩
    have am := am_of (P := P) (w := w) (K := K) (mg := mg) (base := base) (N := ["self", "height", "place"]) (qual := "Line.leave") (st := sL 5) (f := f) (cdv := cdv) (outer := outer) (H := H) (E := E) (by decide) hbl hr
    refine dss_expr (dx_fldM (ds := log) 0 1 T.c T.n2 PySem.F.plainAttrs_list PySem.F.slot_list_append PySem.F.type_list_append mt_append (fun u => da_cons (OX.dx (ox_tup2 ox_str ox_str) rfl) da_nil) (rml_append (by rw [sizeLine_eq]; omega))) ?_
    refine dss_try (ρ1 := [some (lnK C (rows ++ [later]) (log ++ [lIn "leave"])), some (.dat h), some (.dat p)]) (ρ2 := [some (lnK C (rows ++ [later]) (log ++ [lIn "leave"] ++ [lOut "leave"])), some (.dat h), some (.dat p)]) ?_ ?_ ?_
    · refine dss_set 2 (OX.dx (ox_call2 am.nox g_place_of (by decide) (OX.of (dx_meth0S 0 T.c GR (am.nox.room.mono (by decide)) ⟨.ml rows, .ml (log ++ [lIn "leave"]), rows, d, MlK.ml, h1, rfl, rfl, rfl⟩)) (ox_var 1)) h2) ?_ am.nod (hi := by simp [rho0])
      refine dss_expr (dx_fldM (ds := rows) (ns := LN) (ks := [.ml rows, .ml (log ++ [lIn "leave"])]) 0 0 T.c T.n1 PySem.F.plainAttrs_list PySem.F.slot_list_append PySem.F.type_list_append mt_append (fun u => da_cons (OX.dx (ox_call2 am.nox g_without (by decide) (OX.of (dx_meth0S 0 T.c GR (am.nox.room.mono (by decide)) ⟨.pin u (.ml rows), .ml (log ++ [lIn "leave"]), rows, d, MlK.pin, h1, rfl, rfl, rfl⟩)) (ox_var 1)) h3) da_nil) (rml_append (by rw [sizeLine_eq]; omega))) ?_
      exact dss_nil rfl
    · refine dss_expr (dx_fldM (ds := log ++ [lIn "leave"]) 0 1 T.c T.n2 PySem.F.plainAttrs_list PySem.F.slot_list_append PySem.F.type_list_append mt_append (fun u => da_cons (OX.dx (ox_tup2 ox_str ox_str) rfl) da_nil) (rml_append (by rw [sizeLine_eq]; simp; omega))) ?_
      exact dss_nil rfl
    · exact dss_ret (OX.dx (ox_var 2) rfl) ⟨rfl, fin0 rfl⟩
end
end Ov
set_option Elab.async false
set_option linter.all false
set_option maxRecDepth 100000
set_option maxHeartbeats 4000000
namespace Ov
open PySem PySem.Spec PyProof.Rows L2
theorem OG.dg {X : Cx} {e : En} {ρ : Rho} {tg : Expr} {τ : Type} {un : PyData → Option τ} {enc : τ → Rho} {ts : List Nat} {d : PyData} {t : τ} (h : OG X e ρ tg un enc ts) (z : un d = some t) : DG X e ρ tg (.dat d) (enc t) ts := h d t z
theorem OI.di {X : Cx} {e : En} {ρ : Rho} {tg ex : Expr} {m : Option (List PyData)} {ds : List PyData} (h : OI X e ρ tg ex m) (z : m = some ds) : DI X e ρ tg ex ρ ds := h ds z
/-! ### the drift -/
abbrev DN : List Str := ["own_people", "own_runs", "own_ways", "own_total", "own_left"]
def waysD (a b : Int) : List (Key × PyData) := dcD (fun _ => true) (fun i => i) (fun _ => PyData.int 1) (rng a (b + 1 - a).toNat)
def RgOk' (a b : Int) : Prop := (-1000000000 ≤ a ∧ a ≤ 1000000000) ∧ (-1000000000 ≤ b ∧ b ≤ 1000000000) ∧ b - a ≤ 16777216
/-- what a drift is made of -/
structure DriftOf (row height : PyData) (people : List PyData) (rs : PyData) (a b : Int) (left : List PyData) : Prop where
  h1 : (f_place_of row height).isSome = true
  h2 : pSort row = some people
  h3 : f_runs row = some rs
  h4 : ((pIndex (.list people) height).bind fun j => pIx rs j) = some (.tuple [.int a, .int b])
  h6 : pRg (.int a) (.int (b + 1)) = some ((rng a (b + 1 - a).toNat).map .int)
  h8 : compF some (fun (o : PyData) => pLt o height) (fun o => some o) people = some left
abbrev drK (C : Addr) (people : List PyData) (rs : PyData) (a b : Int) (left : List PyData) : Kd := .ob C DN [.dat (.list people), .dat rs, .dk (waysD a b), .dat (.int (b - a + 1)), .ml left]
def relDI (C : Addr) : Rel := fun ks ks' r => ∃ row height people rs a b left, DriftOf row height people rs a b left ∧ ks = [.ob C [] [], .dat row, .dat height] ∧ ks' = [drK C people rs a b left, .dat row, .dat height] ∧ r = .ret (.dat .none)
def relDR (C : Addr) : Rel := fun ks ks' r => ∃ ns kk people rs height v, ((pIndex people height).bind fun j => pIx rs j) = some v ∧ ks = [.ob C ("own_people" :: "own_runs" :: ns) (.dat people :: .dat rs :: kk), .dat height] ∧ ks' = [.ob C ("own_people" :: "own_runs" :: ns) (.dat people :: .dat rs :: kk), .dat height] ∧ r = .ret (.dat v)
def relDD (C : Addr) : Rel := fun ks ks' r => ∃ people rs a b height, ks = [drK C people rs a b [], .dat height] ∧ ks' = [drK C people rs a b [], .dat height] ∧ r = .ret (.dat .none)
abbrev sD (i : Nat) : Stmt := inClass (top 45) i
section
variable {P : Program} {w : World} {K : PySem.W.Frag} {mg : Str → Option Value} {base : Heap} {f C : Addr} {fd : FuncData}
structure DTx (K : PySem.W.Frag) (C : Addr) : Prop where
  c : Cls K C
  n1 : NoAttr K C "own_people"
  n2 : NoAttr K C "own_runs"
  n3 : NoAttr K C "own_ways"
  n4 : NoAttr K C "own_total"
  n5 : NoAttr K C "own_left"
theorem d_run_of (T : DTx K C) (F : Fun K "run_of" "Drift.run_of" (sD 1) f fd) (hm : Meth K C "run_of" f) (hb : Binds K fd ["self", "height"] []) (hbl : ∀ x ∈ blts, mg x = none) : Mth P w K mg base C "run_of" ["self", "height"] 2 (relDR C) := by
  refine Mth.of (kk := 1) (N := ["self", "height"]) F ⟨rfl, rfl, rfl, by decide +kernel, rfl, by decide +kernel, by decide +kernel⟩ hm hb ?_ ?_
  · rintro ks ks' r ⟨ns, kk, people, rs, height, v, _, rfl, rfl, rfl⟩
    exact ⟨rfl, by simp [keepD]⟩
  · rintro cdv A outer s H E hr e vs ks ks' r ⟨ns, kk, people, rs, height, v, h, rfl, rfl, rfl⟩
    have am := am_of (P := P) (w := w) (K := K) (mg := mg) (base := base) (N := ["self", "height"]) (qual := "Drift.run_of") (st := sD 1) (f := f) (cdv := cdv) (outer := outer) (H := H) (E := E) (by decide) hbl hr
    exact dss_ret (OX.dx (ox_ix (OX.of (dx_fld 0 1 T.c T.n2)) (ox_index am (OX.of (dx_fld 0 0 T.c T.n1)) (ox_var 1))) h) ⟨rfl, fin0 rfl⟩
theorem d_down (T : DTx K C) (F : Fun K "put_down_to" "Drift.put_down_to" (sD 3) f fd) (hm : Meth K C "put_down_to" f) (hb : Binds K fd ["self", "height"] []) (hbl : ∀ x ∈ blts, mg x = none) : Mth P w K mg base C "put_down_to" ["self", "height"] 2 (relDD C) := by
  refine Mth.of (kk := 1) (N := ["self", "height"]) F ⟨rfl, rfl, rfl, by decide +kernel, rfl, by decide +kernel, by decide +kernel⟩ hm hb ?_ ?_
  · rintro ks ks' r ⟨people, rs, a, b, height, rfl, rfl, rfl⟩
    exact ⟨rfl, by simp [keepD]⟩
  · rintro cdv A outer s H E hr e vs ks ks' r ⟨people, rs, a, b, height, rfl, rfl, rfl⟩
    have am := am_of (P := P) (w := w) (K := K) (mg := mg) (base := base) (N := ["self", "height"]) (qual := "Drift.put_down_to") (st := sD 3) (f := f) (cdv := cdv) (outer := outer) (H := H) (E := E) (by decide) hbl hr
    refine dss_while (fun _ ρ' => ρ' = [some (drK C people rs a b []), some (.dat height)]) (fun _ _ => false) (fun ρ' => ρ' = [some (drK C people rs a b []), some (.dat height)]) (passes_of rfl) ⟨0, rfl⟩ ?_ (fun _ _ _ z => nomatch z) (fun _ ρ' z _ => z) ?_
    · rintro m ρ' rfl
      exact OT.dt (ot_w (ow_and (tb := none) (ot_gt (OX.of (dx_fldLen 0 4 T.c T.n5 MlK.ml (hbl _ (by decide)))) ox_int) (fun _ z => nomatch z))) rfl
    · rintro ρ' rfl
      exact dss_nil ⟨rfl, fin0 rfl⟩
theorem d_init (T : DTx K C) (GR : Mth P w K mg base C "run_of" ["self", "height"] 2 (relDR C)) (g_place_of : Fn P w K mg base "place_of" ["row", "height"] 2 (rel2 f_place_of)) (g_runs_runs : Fn P w K mg base "runs_runs" ["row"] 5 (rel1 f_runs)) (F : Fun K "__init__" "Drift.__init__" (sD 0) f fd) (hm : Mk K C f) (hb : Binds K fd ["self", "row", "height"] []) (hbl : ∀ x ∈ blts, mg x = none) : Ini P w K mg base C ["self", "row", "height"] 6 (relDI C) := by
  refine Ini.of (kk := 5) (N := ["self", "row", "height", "first", "last", "index", "other"]) F ⟨rfl, rfl, rfl, by decide +kernel, rfl, by decide +kernel, by decide +kernel⟩ hm hb ?_ ?_
  · rintro ks ks' r ⟨row, height, people, rs, a, b, left, _, rfl, rfl, rfl⟩
    exact ⟨rfl, by simp [keepD]⟩
  · rintro cdv A outer s H E hr e vs ks ks' r ⟨row, height, people, rs, a, b, left, D, rfl, rfl, rfl⟩
    have am := am_of (P := P) (w := w) (K := K) (mg := mg) (base := base) (N := ["self", "row", "height", "first", "last", "index", "other"]) (qual := "Drift.__init__") (st := sD 0) (f := f) (cdv := cdv) (outer := outer) (H := H) (E := E) (by decide) hbl hr
    obtain ⟨z, h1⟩ := Option.isSome_iff_exists.mp D.h1
    refine dss_expr (OX.dx (ox_call2 am g_place_of (by decide) (ox_var 1) (ox_var 2)) h1) ?_
    refine dss_fldN 0 T.c T.n1 (OX.dx (d := .list people) (ox_fz (om_sort am (ox_var 1))) (by show Option.map _ (pSort row) = _; rw [D.h2]; rfl)) ?_
    refine dss_fldN 0 T.c T.n2 (OX.dx (ox_call1 am g_runs_runs (by decide) (ox_var 1)) D.h3) ?_
    refine dss_asg (dx_methS (ds := [height]) 0 T.c GR (am.room.mono (by decide)) (da_cons (OX.dx (ox_var 2) rfl) da_nil) ⟨[], [], .list people, rs, height, _, D.h4, rfl, rfl, rfl⟩) (OG.dg (og_2 am (og_name 3 am) (fun _ => og_name 4 am)) rfl) ?_
    refine dss_eq (ρ1 := [some (.ob C ["own_people", "own_runs"] [.dat (.list people), .dat rs]), some (.dat row), some (.dat height), some (.dat (.int a)), some (.dat (.int b)), none, none]) ?_ rfl
    refine dss_fldN 0 T.c T.n3 (k := .dk (waysD a b)) (dx_dc (own := [("index", 5)]) (enc := .int) (fun i => [some (.ob C ["own_people", "own_runs"] [.dat (.list people), .dat rs]), some (.dat row), some (.dat height), some (.dat (.int a)), some (.dat (.int b)), some (.dat (.int i)), none]) [5] rfl am.nod (OI.di (oi_rg2 am (ox_var 3) (ox_add (ox_var 4) ox_int)) (by exact D.h6)) (blkOk_by (by rfl)) ?_ ?_ ?_ ?_ (by decide) (fun _ _ => rfl)) ?_
    · intro s H C' cl fp d _
      exact dg_name 5 am.nod (ixlt rfl) rfl (by first | exact Or.inl rfl | exact Or.inr rfl) (by first | exact .inl rfl | exact .inr rfl)
    · intro s H C' cl fp d _
      exact dts_nil
    · intro s H C' cl fp d _ _
      exact OX.dx (ox_var 5) rfl
    · intro s H C' cl fp d _ _
      exact OX.dx ox_int rfl
    refine dss_fldN 0 T.c T.n4 (OX.dx (d := .int (b - a + 1)) (ox_add (ox_sub (ox_var 4) (ox_var 3)) ox_int) rfl) ?_
    refine dss_fldN 0 T.c T.n5 (OM.dx (ds := left) (om_lc (own := [("other", 6)]) am (fun (o : PyData) => [some (.ob C ["own_people", "own_runs", "own_ways", "own_total"] [.dat (.list people), .dat rs, .dk (waysD a b), .dat (.int (b - a + 1))]), some (.dat row), some (.dat height), some (.dat (.int a)), some (.dat (.int b)), none, some (.dat o)]) [6] (oi_x am (OX.of (dx_fld (d := .list people) 0 0 T.c T.n1))) (blkOk_by (by rfl)) (fun s H C cl fp am => og_name 6 am) (fun s H C cl fp o am => ots_one (ot_lt (ox_var 6) (ox_var 2))) (fun s H C cl fp o am => ox_var 6)) D.h8) ?_
    exact dss_nil ⟨rfl, fin0 rfl⟩
end
end Ov
set_option Elab.async false
set_option linter.all false
set_option maxRecDepth 100000
set_option maxHeartbeats 4000000
namespace Ov
open PySem PySem.Spec PyProof.Rows L2
theorem Am.units {X : Cx} {lv : Nat} (am : Am X lv) : X.A.units + 1 < cLine := by
  have := am.room.un
  omega
def uI2 : PyData → Option (Int × Int)
  | .tuple [.int a, .int b] => some (a, b)
  | _ => none
theorem uI2_eq {t : PyData} {q : Int × Int} (h : uI2 t = some q) : t = .tuple [.int q.1, .int q.2] := by
  unfold uI2 at h
  split at h
  · cases h
    rfl
  · cases h
def pLenI : PyData → Option Int
  | .list ds => some (ds.length : Nat)
  | .tuple ds => some (ds.length : Nat)
  | _ => none
theorem pLenI_eq {t : PyData} {n : Int} (h : pLenI t = some n) : pLen t = some (.int n) := by
  unfold pLenI at h
  split at h
  · cases h
    rfl
  · cases h
    rfl
  · cases h
theorem pRg_eq {a b : Int} {ds : List PyData} (h : pRg (.int a) (.int b) = some ds) : pRg (.int a) (.int b) = some ((rng a (b - a).toNat).map .int) := by
  unfold pRg at h ⊢
  obtain ⟨h1, _⟩ := oi h
  simp only []
  rw [if_pos h1]
def wayL (a b n : Int) : List PyData := (rng 0 (n - 0).toNat).map fun i => (getD (waysD a b) (.inl i)).getD (.int 0)
def f_place_ways (row height : PyData) : OP :=
  (f_place_of row height).bind fun _ => (pSort row).bind fun people => (f_runs row).bind fun rs => ((pIndex (.list people) height).bind fun j => pIx rs j).bind fun t => (uI2 t).bind fun q => (pRg (.int q.1) (.int (q.2 + 1))).bind fun _ =>
    (compF some (fun (o : PyData) => pLt o height) (fun o => some o) people).bind fun left => (if left.isEmpty = true then some () else none).bind fun _ => (pLenI row).bind fun n => (pRg (.int 0) (.int n)).bind fun _ => some (.tuple [.list (wayL q.1 q.2 n), .int (q.2 - q.1 + 1)])
section
variable {P : Program} {w : World} {K : PySem.W.Frag} {mg : Str → Option Value} {base : Heap} {f C : Addr} {fd : FuncData}
theorem fn_place_ways {x : Str} (T : DTx K C) (hC : mg "Drift" = some (.ref C)) (GI : Ini P w K mg base C ["self", "row", "height"] 6 (relDI C)) (GD : Mth P w K mg base C "put_down_to" ["self", "height"] 2 (relDD C)) (F : Fun K "place_ways" "place_ways" (top 46) f fd) (hm : mg x = some (.ref f)) (hb : Binds K fd ["row", "height"] []) (hbl : ∀ x ∈ blts, mg x = none) :
    Fn P w K mg base x ["row", "height"] 8 (rel2 f_place_ways) := by
  refine Fn.of (k := 7) (N := ["row", "height", "drift", "place"]) F ⟨rfl, rfl, rfl, by decide +kernel, rfl, by decide +kernel, by decide +kernel⟩ hm hb ?_ ?_
  · rintro ks ks' r ⟨row, height, v, _, rfl, rfl, rfl⟩
    exact ⟨rfl, by simp [keepD]⟩
  · rintro cdv A outer s H E hr e vs ks ks' r ⟨row, height, v, hv, rfl, rfl, rfl⟩
    have am := am_of (P := P) (w := w) (K := K) (mg := mg) (base := base) (N := ["row", "height", "drift", "place"]) (qual := "place_ways") (st := top 46) (f := f) (cdv := cdv) (outer := outer) (H := H) (E := E) (by decide) hbl hr
    unfold f_place_ways at hv
    obtain ⟨z, h1, hv⟩ := ob hv
    obtain ⟨people, h2, hv⟩ := ob hv
    obtain ⟨rs, h3, hv⟩ := ob hv
    obtain ⟨t, h4, hv⟩ := ob hv
    obtain ⟨⟨a, b⟩, h5, hv⟩ := ob hv
    obtain ⟨_, h6, hv⟩ := ob hv
    obtain ⟨left, h8, hv⟩ := ob hv
    obtain ⟨_, h9, hv⟩ := ob hv
    obtain ⟨h9, _⟩ := oi h9
    obtain ⟨n, h10, hv⟩ := ob hv
    obtain ⟨_, h11, hv⟩ := ob hv
    cases hv
    have h9 : left = [] := List.isEmpty_iff.mp h9
    subst h9
    have h5 := uI2_eq h5
    simp only at h5
    subst h5
    have D : DriftOf row height people rs a b [] := ⟨by rw [h1]; rfl, h2, h3, h4, pRg_eq h6, h8⟩
    refine dss_set 2 (k := drK C people rs a b []) (dx_make (ds := [row, height]) GI am.room hC (da_cons (OX.dx (ox_var 0) rfl) (da_cons (OX.dx (ox_var 1) rfl) da_nil)) ⟨row, height, people, rs, a, b, [], D, rfl, rfl, rfl⟩) ?_ am.nod (hi := by simp [rho0])
    refine dss_expr (dx_methS (ds := [.int 0]) 2 T.c GD (am.room.mono (by decide)) (da_cons (OX.dx ox_int rfl) da_nil) ⟨people, rs, a, b, .int 0, rfl, rfl, rfl⟩) ?_
    refine dss_eq (ρ1 := [some (.dat row), some (.dat height), some (drK C people rs a b []), none]) ?_ rfl
    have hL : wayL a b n = comp (fun _ => true) (fun i => (getD (waysD a b) (.inl i)).getD (.int 0)) (rng 0 (n - 0).toNat) := by
      unfold wayL comp
      rw [List.filter_eq_self.mpr (fun _ _ => rfl)]
    rw [show (.tuple [.list (wayL a b n), .int (b - a + 1)] : PyData) = .tuple [.list (comp (fun _ => true) (fun i => (getD (waysD a b) (.inl i)).getD (.int 0)) (rng 0 (n - 0).toNat)), .int (b - a + 1)] by rw [hL]]
    refine dss_ret (OX.dx (ox_tup2 (OX.of (dx_fz (dx_lc (own := [("place", 3)]) (enc := .int) (fun i => [some (.dat row), some (.dat height), some (drK C people rs a b []), some (.dat (.int i))]) [3] rfl am.nod (OI.di (oi_rg1 am (ox_len am (ox_var 0))) (by rw [show ((some row).bind pLen) = some (.int n) from pLenI_eq h10]; exact pRg_eq h11)) (blkOk_by (by rfl)) ?_ ?_ ?_ (by decide) (fun _ _ => rfl)))) (OX.of (dx_fld 2 3 T.c T.n4))) rfl) ⟨rfl, fin_nil⟩
    · intro s H C' cl fp d _
      exact dg_name 3 am.nod (ixlt rfl) rfl (by first | exact Or.inl rfl | exact Or.inr rfl) (by first | exact .inl rfl | exact .inr rfl)
    · intro s H C' cl fp d _
      exact dts_nil
    · intro s H C' cl fp d _ _
      exact dx_fldGet 2 2 3 T.c T.n3 am.units
end
end Ov
set_option Elab.async false
set_option linter.all false
set_option maxRecDepth 100000
set_option maxHeartbeats 4000000
namespace Ov
open PySem PySem.Spec PyProof.Rows L2
section
variable {P : Program} {w : World} {K : PySem.W.Frag} {mg : Str → Option Value} {base : Heap} {f : Addr} {fd : FuncData}
def b_chances_of (v_row v_height : PyData) : Option (Fl Unit Unit Unit) := (Option.bind (Option.bind (Option.bind (some v_row) fun a1 => (Option.bind (some v_height) fun a2 => f_place_ways a1 a2)) (unP some some)) fun (t3 : PyData × PyData) => (Option.map (fun v => Fl.rt v ()) (Option.map PyData.list (Option.bind (Option.bind (some t3.1) pIt) (compF some (fun (t4 : PyData) => (some true)) (fun (t4 : PyData) => (Option.bind (some t4) fun a5 => (Option.bind (some t3.2) fun a6 => f_reduced a5 a6))))))))
def f_chances_of (v_row v_height : PyData) : OP := finF (b_chances_of v_row v_height)
theorem fn_chances_of {x : Str} (g_place_ways : Fn P w K mg base "place_ways" ["row", "height"] 8 (rel2 f_place_ways)) (g_reduced : Fn P w K mg base "reduced" ["numerator", "denominator"] 3 (rel2 f_reduced)) (F : Fun K "chances_of" "chances_of" (top 47) f fd) (hm : mg x = some (.ref f)) (hb : Binds K fd ["row", "height"] []) (hbl : ∀ x ∈ blts, mg x = none) : Fn P w K mg base x ["row", "height"] 9 (rel2 f_chances_of) := by
  refine Fn.of2 (k := 7) (N := ["row", "height", "ways", "whole", "some"]) (eN := fun _ => [none, none, none, none, none]) (mB := b_chances_of) F ⟨rfl, rfl, rfl, by decide +kernel, rfl, by decide +kernel, by decide +kernel⟩ hm hb hbl (by decide) rfl (fun _ _ => rfl) ?_
  intro cdv A outer s H E am e vs v_row v_height
  unfold b_chances_of
  exact (oss_asg (ox_call2 am g_place_ways (by decide) (ox_var 0) (ox_var 1)) (og_2 am (og_name 2 am) (fun _ => (og_name 3 am))) (fun t3 => (oss_ret (ox_fz (om_lc (own := [("some", 4)]) am (fun (t4 : PyData) => [some (.dat v_row), some (.dat v_height), some (.dat t3.1), some (.dat t3.2), some (.dat t4)]) [4] (oi_x am (ox_var 2)) (blkOk_by (by rfl)) (fun s H C cl fp am => (og_name 4 am)) (fun s H C cl fp t4 am => ots_nil) (fun s H C cl fp t4 am => (ox_call2 am g_reduced (by decide) (ox_var 4) (ox_var 3))))) trivial)))
def b_places_of (v_row v_height : PyData) : Option (Fl Unit Unit Unit) := (Option.map (fun v => Fl.rt v ()) (Option.map PyData.list (Option.bind (Option.bind (Option.bind (Option.bind (some v_row) fun a1 => (Option.bind (some v_height) fun a2 => f_place_ways a1 a2)) fun a3 => Option.bind (some (PyData.int 0)) fun b4 => pIx a3 b4) pEn) (compF (unP some some) (fun (t5 : PyData × PyData) => (Option.bind (some t5.2) fun a6 => Option.bind (some (PyData.int 0)) fun b7 => pGt a6 b7)) (fun (t5 : PyData × PyData) => (some t5.1))))))
def f_places_of (v_row v_height : PyData) : OP := finF (b_places_of v_row v_height)
theorem fn_places_of {x : Str} (g_place_ways : Fn P w K mg base "place_ways" ["row", "height"] 8 (rel2 f_place_ways)) (F : Fun K "places_of" "places_of" (top 48) f fd) (hm : mg x = some (.ref f)) (hb : Binds K fd ["row", "height"] []) (hbl : ∀ x ∈ blts, mg x = none) : Fn P w K mg base x ["row", "height"] 9 (rel2 f_places_of) := by
  refine Fn.of2 (k := 7) (N := ["row", "height", "place", "some"]) (eN := fun _ => [none, none, none, none]) (mB := b_places_of) F ⟨rfl, rfl, rfl, by decide +kernel, rfl, by decide +kernel, by decide +kernel⟩ hm hb hbl (by decide) rfl (fun _ _ => rfl) ?_
  intro cdv A outer s H E am e vs v_row v_height
  unfold b_places_of
  exact (oss_ret (ox_fz (om_lc (own := [("place", 2), ("some", 3)]) am (fun (t5 : PyData × PyData) => [some (.dat v_row), some (.dat v_height), some (.dat t5.1), some (.dat t5.2)]) ([2] ++ ([3] ++ [])) (oi_en am (ox_ix (ox_call2 am g_place_ways (by decide) (ox_var 0) (ox_var 1)) ox_int)) (blkOk_by (by rfl)) (fun s H C cl fp am => (og_2 am (og_name 2 am) (fun _ => (og_name 3 am)))) (fun s H C cl fp t5 am => (ots_one (ot_gt (ox_var 3) ox_int))) (fun s H C cl fp t5 am => (ox_var 2)))) trivial)
def b_expected_place (v_row v_height : PyData) : Option (Fl Unit Unit Unit) := (Option.bind (Option.bind (Option.bind (some v_row) fun a1 => (Option.bind (some v_height) fun a2 => f_place_ways a1 a2)) (unP some some)) fun (t3 : PyData × PyData) => (Option.map (fun v => Fl.rt v ()) (Option.bind (Option.bind (Option.map PyData.list (Option.bind (Option.bind (some t3.1) pEn) (compF (unP some some) (fun (t4 : PyData × PyData) => (some true)) (fun (t4 : PyData × PyData) => (Option.bind (some t4.1) fun a5 => Option.bind (some t4.2) fun b6 => pMul a5 b6))))) pSum) fun a7 => (Option.bind (some t3.2) fun a8 => f_reduced a7 a8))))
def f_expected_place (v_row v_height : PyData) : OP := finF (b_expected_place v_row v_height)
theorem fn_expected_place {x : Str} (g_place_ways : Fn P w K mg base "place_ways" ["row", "height"] 8 (rel2 f_place_ways)) (g_reduced : Fn P w K mg base "reduced" ["numerator", "denominator"] 3 (rel2 f_reduced)) (F : Fun K "expected_place" "expected_place" (top 49) f fd) (hm : mg x = some (.ref f)) (hb : Binds K fd ["row", "height"] []) (hbl : ∀ x ∈ blts, mg x = none) : Fn P w K mg base x ["row", "height"] 9 (rel2 f_expected_place) := by
  refine Fn.of2 (k := 7) (N := ["row", "height", "ways", "whole", "place", "some"]) (eN := fun _ => [none, none, none, none, none, none]) (mB := b_expected_place) F ⟨rfl, rfl, rfl, by decide +kernel, rfl, by decide +kernel, by decide +kernel⟩ hm hb hbl (by decide) rfl (fun _ _ => rfl) ?_
  intro cdv A outer s H E am e vs v_row v_height
  unfold b_expected_place
  exact (oss_asg (ox_call2 am g_place_ways (by decide) (ox_var 0) (ox_var 1)) (og_2 am (og_name 2 am) (fun _ => (og_name 3 am))) (fun t3 => (oss_ret (ox_call2 am g_reduced (by decide) (ox_sum am (ox_fz (om_lc (own := [("place", 4), ("some", 5)]) am (fun (t4 : PyData × PyData) => [some (.dat v_row), some (.dat v_height), some (.dat t3.1), some (.dat t3.2), some (.dat t4.1), some (.dat t4.2)]) ([4] ++ ([5] ++ [])) (oi_en am (ox_var 2)) (blkOk_by (by rfl)) (fun s H C cl fp am => (og_2 am (og_name 4 am) (fun _ => (og_name 5 am)))) (fun s H C cl fp t4 am => ots_nil) (fun s H C cl fp t4 am => (ox_mul (ox_var 4) (ox_var 5)))))) (ox_var 3)) trivial)))
end
end Ov
set_option Elab.async false
set_option linter.all false
set_option maxRecDepth 100000
set_option maxHeartbeats 4000000
namespace Ov
open PySem PySem.Spec PyProof.Rows L2
/-! ### the urn -/
abbrev urnL (a b c : Int) : List PyData := [.int a, .int b, .int c]
def onceT (b c : Int) : Int := ((b + 48271 * (c + 1)) * (39373 + (c + 1))) % 2147483647
def farT (b c : Int) : Int := onceT b c % 40009 + 7
def twiceT (b c : Int) : Int := ((onceT b c + (c + 1) + b / 1000003) * farT b c) % 2147483629
def takeU (a b c n : Int) : List PyData := if 0 < a then urnL (a / n) b c else urnL a b (c + 1)
def takeV (a b c n : Int) : Int := if 0 < a then a % n else ((twiceT b c * 48271 + onceT b c) % 2147483587 / 64) % n
def relTk : Rel := fun ks ks' r => ∃ a b c n, (0 < n ∧ n < 1073741824) ∧ (0 ≤ c ∧ c < 1000000) ∧ ks = [.ml (urnL a b c), .dat (.int n)] ∧ ks' = [.ml (takeU a b c n), .dat (.int n)] ∧ r = .ret (.dat (.int (takeV a b c n)))
section
variable {P : Program} {w : World} {K : PySem.W.Frag} {mg : Str → Option Value} {base : Heap} {f : Addr} {fd : FuncData}
theorem fn_law_take {x : Str} (F : Fun K "_law_take" "_law_take" (top 78) f fd) (hm : mg x = some (.ref f)) (hb : Binds K fd ["urn", "below"] []) (hbl : ∀ x ∈ blts, mg x = none) : Fn P w K mg base x ["urn", "below"] 2 relTk := by
  refine Fn.of (k := 1) (N := ["urn", "below", "drawn", "once", "far", "twice"]) F ⟨rfl, rfl, rfl, by decide +kernel, rfl, by decide +kernel, by decide +kernel⟩ hm hb ?_ ?_
  · rintro ks ks' r ⟨a, b, c, n, _, _, rfl, rfl, rfl⟩
    exact ⟨rfl, by simp [keepD]⟩
  · rintro cdv A outer s H E hr e vs ks ks' r ⟨a, b, c, n, hn, hc, rfl, rfl, rfl⟩
    have am := am_of (P := P) (w := w) (K := K) (mg := mg) (base := base) (N := ["urn", "below", "drawn", "once", "far", "twice"]) (qual := "_law_take") (st := top 78) (f := f) (cdv := cdv) (outer := outer) (H := H) (E := E) (by decide) hbl hr
    refine dss_ifR (b := decide (0 < a)) (OT.dt (ot_lend fun e' => ot_gt (ox_ix (ox_var (d := .list (urnL a b c)) 0) ox_int) ox_int) rfl) (fun z => ?_) (fun z => ?_)
    · have ha : 0 < a := of_decide_eq_true z
      have e1 : takeU a b c n = urnL (a / n) b c := if_pos ha
      have e2 : takeV a b c n = a % n := if_pos ha
      rw [e1, e2]
      refine dss_set 2 (k := .dat (.int (a % n))) (OX.dx (ox_lend fun e' => ox_mod (ox_toI am (ox_ix (ox_var (d := .list (urnL a b c)) 0) ox_int)) (ox_var (d := .int n) 1)) ?_) ?_ am.nod (hi := by simp [rho0])
      · show Option.bind (pMod (.int a) (.int n)) hardO = _
        rw [show pMod (.int a) (.int n) = some (.int (a % n)) from if_pos hn.1]
        rfl
      refine dss_sub 0 (d := .int (a / n)) (j := 0) (n := 0) (ds := urnL a b c) (k0 := .ml (urnL a b c)) (OX.dx (ox_lend fun e' => ox_div (ox_ix (ox_var (d := .list (urnL a b c)) 0) ox_int) (ox_var (d := .int n) 1)) ?_) (pe_var rfl (Or.inl rfl) (by decide) (by decide)) (OX.dx ox_int rfl) rfl ?_
      · show Option.bind (pDiv (.int a) (.int n)) hardO = _
        rw [show pDiv (.int a) (.int n) = some (.int (a / n)) from if_pos hn]
        rfl
      exact dss_ret (OX.dx (ox_var 2) rfl) ⟨rfl, fin0 rfl⟩
    · have ha : ¬ 0 < a := of_decide_eq_false z
      have e1 : takeU a b c n = urnL a b (c + 1) := if_neg ha
      have e2 : takeV a b c n = ((twiceT b c * 48271 + onceT b c) % 2147483587 / 64) % n := if_neg ha
      rw [e1, e2]
      refine dss_sub 0 (d := .int (c + 1)) (j := 2) (n := 2) (ds := urnL a b c) (k0 := .ml (urnL a b c)) (OX.dx (ox_lend fun e' => ox_add (ox_ix (ox_var (d := .list (urnL a b c)) 0) ox_int) ox_int) rfl) (pe_var rfl (Or.inl rfl) (by decide) (by decide)) (OX.dx ox_int rfl) rfl ?_
      refine dss_eq (ρ1 := [some (.ml (urnL a b (c + 1))), some (.dat (.int n)), none, none, none, none]) ?_ rfl
      refine dss_set 3 (k := .dat (.int (onceT b c))) (OX.dx (ox_lend fun e' => ox_mod (ox_toI am (ox_mul (ox_add (ox_ix (ox_var (d := .list (urnL a b (c + 1))) 0) ox_int) (ox_mul ox_int (ox_ix (ox_var (d := .list (urnL a b (c + 1))) 0) ox_int))) (ox_add ox_int (ox_ix (ox_var (d := .list (urnL a b (c + 1))) 0) ox_int)))) ox_int) ?_) ?_ am.nod (hi := by simp)
      · have m1 : pMul (.int 48271) (.int (c + 1)) = some (.int (48271 * (c + 1))) := by
          unfold pMul
          exact if_pos (by omega)
        have m2 : pMul (.int (b + 48271 * (c + 1))) (.int (39373 + (c + 1))) = some (.int ((b + 48271 * (c + 1)) * (39373 + (c + 1)))) := if_pos (by omega)
        show Option.bind (Option.bind (Option.bind (Option.bind (Option.bind (pMul (.int 48271) (.int (c + 1))) fun y => pAdd (.int b) y) fun x => pMul x (.int (39373 + (c + 1)))) pToI) fun x => pMod x (.int 2147483647)) hardO = _
        rw [m1]
        show Option.bind (Option.bind (Option.bind (pMul (.int (b + 48271 * (c + 1))) (.int (39373 + (c + 1)))) pToI) fun x => pMod x (.int 2147483647)) hardO = _
        rw [m2]
        rfl
      refine dss_set 4 (k := .dat (.int (farT b c))) (OX.dx (ox_add (ox_mod (ox_toI am (ox_var (d := .int (onceT b c)) 3)) ox_int) ox_int) ?_) ?_ am.nod (hi := by simp)
      · rfl
      refine dss_set 5 (k := .dat (.int (twiceT b c))) (OX.dx (ox_lend fun e' => ox_mod (ox_toI am (ox_mul (ox_add (ox_add (ox_var (d := .int (onceT b c)) 3) (ox_ix (ox_var (d := .list (urnL a b (c + 1))) 0) ox_int)) (ox_div (ox_ix (ox_var (d := .list (urnL a b (c + 1))) 0) ox_int) ox_int)) (ox_var (d := .int (farT b c)) 4))) ox_int) ?_) ?_ am.nod (hi := by simp)
      · have hf : 0 ≤ farT b c ∧ farT b c < 100000 := by
          unfold farT
          omega
        have m2 : pMul (.int (onceT b c + (c + 1) + b / 1000003)) (.int (farT b c)) = some (.int ((onceT b c + (c + 1) + b / 1000003) * farT b c)) := if_pos (by omega)
        show Option.bind (Option.bind (Option.bind (pMul (.int (onceT b c + (c + 1) + b / 1000003)) (.int (farT b c))) pToI) fun x => pMod x (.int 2147483629)) hardO = _
        rw [m2]
        rfl
      refine dss_ret (OX.dx (d := .int (((twiceT b c * 48271 + onceT b c) % 2147483587 / 64) % n)) (ox_mod (ox_toI am (ox_div (ox_mod (ox_toI am (ox_add (ox_mul (ox_var (d := .int (twiceT b c)) 5) ox_int) (ox_var (d := .int (onceT b c)) 3))) ox_int) ox_int)) (ox_var (d := .int n) 1)) ?_) ⟨rfl, fin0 rfl⟩
      · have m1 : pMul (.int (twiceT b c)) (.int 48271) = some (.int (twiceT b c * 48271)) := if_pos (by omega)
        have m2 : pMod (.int ((twiceT b c * 48271 + onceT b c) % 2147483587 / 64)) (.int n) = some (.int (((twiceT b c * 48271 + onceT b c) % 2147483587 / 64) % n)) := if_pos hn.1
        show Option.bind (Option.bind (Option.bind (Option.bind (Option.bind (Option.bind (pMul (.int (twiceT b c)) (.int 48271)) fun x => pAdd x (.int (onceT b c))) pToI) fun x => pMod x (.int 2147483587)) fun x => pDiv x (.int 64)) pToI) (fun x => pMod x (.int n)) = _
        rw [m1]
        exact m2
end
end Ov
set_option Elab.async false
set_option linter.all false
set_option maxRecDepth 100000
set_option maxHeartbeats 4000000
namespace Ov
open PySem PySem.Spec PyProof.Rows L2
def relOf : Rel := fun ks ks' r => ∃ a b c ds v, (0 < (ds.length : Int) ∧ (ds.length : Int) < 1073741824) ∧ (0 ≤ c ∧ c < 1000000) ∧ atI ds (takeV a b c (ds.length : Nat)) = some v ∧ ks = [.ml (urnL a b c), .dat (.list ds)] ∧ ks' = [.ml (takeU a b c (ds.length : Nat)), .dat (.list ds)] ∧ r = .ret (.dat v)
section
variable {P : Program} {w : World} {K : PySem.W.Frag} {mg : Str → Option Value} {base : Heap} {f : Addr} {fd : FuncData}
theorem fn_law_of {x : Str} (g : Fn P w K mg base "_law_take" ["urn", "below"] 2 relTk) (F : Fun K "_law_of" "_law_of" (top 80) f fd) (hm : mg x = some (.ref f)) (hb : Binds K fd ["urn", "some"] []) (hbl : ∀ x ∈ blts, mg x = none) : Fn P w K mg base x ["urn", "some"] 3 relOf := by
  refine Fn.of (k := 2) (N := ["urn", "some"]) F ⟨rfl, rfl, rfl, by decide +kernel, rfl, by decide +kernel, by decide +kernel⟩ hm hb ?_ ?_
  · rintro ks ks' r ⟨a, b, c, ds, v, _, _, _, rfl, rfl, rfl⟩
    exact ⟨rfl, by simp [keepD]⟩
  · rintro cdv A outer s H E hr e vs ks ks' r ⟨a, b, c, ds, v, hn, hc, h, rfl, rfl, rfl⟩
    have am := am_of (P := P) (w := w) (K := K) (mg := mg) (base := base) (N := ["urn", "some"]) (qual := "_law_of") (st := top 80) (f := f) (cdv := cdv) (outer := outer) (H := H) (E := E) (by decide) hbl hr
    exact dss_ret (dx_ixL (OX.dx (ox_var (d := .list ds) 1) rfl) (dx_call (k := .dat (.int (takeV a b c (ds.length : Nat)))) (ks' := [.ml (takeU a b c (ds.length : Nat)), .dat (.int (ds.length : Nat))]) g (am.room.mono (by decide)) (da_sl 0 (da_cons (OX.dx (d := .int (ds.length : Nat)) (ox_len am (ox_var (d := .list ds) 1)) rfl) da_nil)) rfl ⟨a, b, c, _, hn, hc, rfl, rfl, rfl⟩ rfl) h) ⟨rfl, fin0 rfl⟩
/-! ### the box -/
def boxU (z k : Int) (p : Int) : List PyData := urnL ((if z < 0 then -z else z) * (if (1000000000000000000 : Int) ≤ (if z < 0 then -z else z) then 1 else 0)) (z % 2305843009213693951 + 41183 * k + p) 0
def relBx (p : Int) : Rel := fun ks ks' r => ∃ z, ks = [.dat (.list [.int z]), .dat (.int 0)] ∧ ks' = ks ∧ r = .ret (.ml (boxU z 0 p))
theorem fn_law_box {x : Str} (F : Fun K "_law_box" "_law_box" (top 77) f fd) (hm : mg x = some (.ref f)) (hb : Binds K fd ["script", "k"] []) (hbl : ∀ x ∈ blts, mg x = none) : Fn P w K mg base x ["script", "k"] 2 (relBx 34062795) := by
  refine Fn.of (k := 1) (N := ["script", "k", "cell"]) F ⟨rfl, rfl, rfl, by decide +kernel, rfl, by decide +kernel, by decide +kernel⟩ hm hb ?_ ?_
  · rintro ks ks' r ⟨z, rfl, rfl, rfl⟩
    exact ⟨rfl, by simp [keepD]⟩
  · rintro cdv A outer s H E hr e vs ks ks' r ⟨z, rfl, rfl, rfl⟩
    have am := am_of (P := P) (w := w) (K := K) (mg := mg) (base := base) (N := ["script", "k", "cell"]) (qual := "_law_box") (st := top 77) (f := f) (cdv := cdv) (outer := outer) (H := H) (E := E) (by decide) hbl hr
    refine dss_set 2 (k := .dat (.int z)) (OX.dx (ox_if (ot_lt (ox_var (d := .int 0) 1) (ox_len am (ox_var (d := .list [.int z]) 0))) (ox_ix (ox_var (d := .list [.int z]) 0) (ox_var (d := .int 0) 1)) ox_int) rfl) ?_ am.nod (hi := by simp [rho0])
    refine dss_ret (k := .ml (boxU z 0 34062795)) (OM.dx (om_lst (oa_cons (ox_mul (ox_abs am (ox_var (d := .int z) 2)) (ox_toI am (ox_ge (ox_abs am (ox_var (d := .int z) 2)) (ox_pow ox_int ox_int)))) (oa_cons (ox_add (ox_add (ox_mod (ox_toI am (ox_var (d := .int z) 2)) ox_int) (ox_mul ox_int (ox_var (d := .int 0) 1))) ox_int) (oa_cons ox_int oa_nil)))) ?_) ⟨rfl, fin_nil⟩
    have h1 : pMul (.int (if z < 0 then -z else z)) (.int (if decide ((10 : Int) ^ (18 : Int).toNat ≤ (if z < 0 then -z else z)) = true then 1 else 0)) = some (.int ((if z < 0 then -z else z) * (if decide ((10 : Int) ^ (18 : Int).toNat ≤ (if z < 0 then -z else z)) = true then 1 else 0))) := by
      unfold pMul
      refine if_pos (.inr ?_)
      split <;> omega
    have h2 : (if decide ((10 : Int) ^ (18 : Int).toNat ≤ (if z < 0 then -z else z)) = true then (1 : Int) else 0) = (if (1000000000000000000 : Int) ≤ (if z < 0 then -z else z) then 1 else 0) := by
      have : ((10 : Int) ^ (18 : Int).toNat) = 1000000000000000000 := by decide
      rw [this]
      by_cases h : (1000000000000000000 : Int) ≤ (if z < 0 then -z else z)
      · rw [if_pos h, if_pos (decide_eq_true h)]
      · rw [if_neg h, if_neg (by rw [decide_eq_false h]; decide)]
    show Option.bind (Option.bind (pMul (.int (if z < 0 then -z else z)) (.int (if decide ((10 : Int) ^ (18 : Int).toNat ≤ (if z < 0 then -z else z)) = true then 1 else 0))) fun a => Option.map (a :: ·) (some [.int (z % 2305843009213693951 + 41183 * 0 + 34062795), .int 0])) (fun l => if l.length ≤ 1000 then some l else none) = _
    rw [h1, h2]
    rfl
end
end Ov
set_option Elab.async false
set_option linter.all false
set_option maxRecDepth 100000
set_option maxHeartbeats 4000000
namespace Ov
open PySem PySem.Spec PyProof.Rows L2
section
variable {X : Cx} {e : En} {ρ : Rho} {ea eb : Expr} {pos : Pos}
/-- xs or e, lists that are owned -/
theorem dx_orM {ds ds' : List PyData} {rest : List Expr} (h : DX X e ρ ea ρ (.ml ds)) (h2 : ds = [] → DX X e ρ (.BoolOp .Or (eb :: rest) pos) ρ (.ml ds')) : DX X e ρ (.BoolOp .Or (ea :: eb :: rest) pos) ρ (.ml (if ds = [] then ds' else ds)) := by
  have h3 : PE X (.BoolOp .Or (eb :: rest) pos) (fun σ H Q => ds = [] ∧ tX X.K e ρ ρ (.ml ds') σ H Q) := ⟨fun pins s σ H Q I q => (h2 q.1).run pins s σ H Q I q.2⟩
  refine PE.mono (pe_orT h h3) fun σ H Q ⟨S, stk, c0, o, q⟩ => ⟨S, stk, c0, o, fun v H1 S1 c1 o1 => ?_⟩
  obtain ⟨p, xs, rfl, hp, hd⟩ := ml_at o1
  cases ds with
  | nil =>
    have hx : xs = [] := List.length_eq_zero_iff.mp hd.len
    subst hx
    refine ⟨false, ?_, ?_⟩
    · exact .inl ⟨[], SqL.of hp, rfl⟩
    rw [if_neg Bool.false_ne_true]
    exact ⟨rfl, S1, stk, c1, o1.drop, fun w H2 S2 c2 o2 => q w H2 S2 c2 o2⟩
  | cons d ds =>
    refine ⟨true, ?_, ?_⟩
    · refine .inl ⟨xs, SqL.of hp, ?_⟩
      cases xs with
      | nil => have := hd.len; simp at this
      | cons x xs => rfl
    rw [if_pos rfl]
    exact q _ H1 S1 c1 o1
end
/-! ### the cells: one cell -/
def cell0 (ns : List Int) : Int := ns.headD 0
/-- behind i turns -/
def cellZ (z : Int) (rest : List Int) (i : Nat) : Int := (List.range i).foldl (fun y k => y + rest.getD k 0 * ((k : Nat) + 2)) z
theorem cellZ_succ (z : Int) (rest : List Int) (i : Nat) : cellZ z rest (i + 1) = cellZ z rest i + rest.getD i 0 * ((i : Nat) + 2) := by
  unfold cellZ
  rw [List.range_succ, List.foldl_append]
  rfl
def cellsZ (ns : List Int) : Int := cellZ (cell0 ns) (cut ns (some 1) (some 63)) (cut ns (some 1) (some 63)).length
def relCl : Rel := fun ks ks' r => ∃ ns, ns.length ≤ 63 ∧ ks = [.scr ns, .dat (.int 1)] ∧ ks' = ks ∧ r = .ret (.dat (.list [.int (cellsZ ns)]))
section
variable {P : Program} {w : World} {K : PySem.W.Frag} {mg : Str → Option Value} {base : Heap} {f : Addr} {fd : FuncData}
def rhoC (ns : List Int) (z : Int) (a b c : Option Kd) : Rho := [some (.scr ns), some (.dat (.int 1)), some (.ml [.int z]), a, b, c]
theorem fn_law_cells {x : Str} (F : Fun K "_law_cells" "_law_cells" (top 79) f fd) (hm : mg x = some (.ref f)) (hb : Binds K fd ["script", "many"] []) (hbl : ∀ x ∈ blts, mg x = none) : Fn P w K mg base x ["script", "many"] 2 relCl := by
  refine Fn.of (k := 1) (N := ["script", "many", "cells", "k", "cell", "at"]) F ⟨rfl, rfl, rfl, by decide +kernel, rfl, by decide +kernel, by decide +kernel⟩ hm hb ?_ ?_
  · rintro ks ks' r ⟨ns, _, rfl, rfl, rfl⟩
    exact ⟨rfl, by simp [keepD]⟩
  · rintro cdv A outer s H E hr e vs ks ks' r ⟨ns, h63, rfl, rfl, rfl⟩
    have am := am_of (P := P) (w := w) (K := K) (mg := mg) (base := base) (N := ["script", "many", "cells", "k", "cell", "at"]) (qual := "_law_cells") (st := top 79) (f := f) (cdv := cdv) (outer := outer) (H := H) (E := E) (by decide) hbl hr
    have e0 : (if (cut ns none (some 1)).map PyData.int = [] then [PyData.int 0] else (cut ns none (some 1)).map PyData.int) = [.int (cell0 ns)] := by
      cases ns with
      | nil => rfl
      | cons n ns =>
        have h : cut (n :: ns) none (some 1) = [n] := by
          unfold cut HT.sIx
          simp
        rw [h]
        rfl
    refine dss_set 2 (k := .ml [.int (cell0 ns)]) (e0 ▸ dx_orM (dx_listOf (c := false) (dx_fz (dx_slS 0 rfl rfl (Or.inl rfl) (by decide) (by decide) dp_no (dp_so (OX.dx (ox_var (d := .int 1) 1) rfl)))) (hbl _ (by decide))) (fun _ => dx_one (OM.dx (om_lst1 ox_int) rfl))) ?_ am.nod (hi := by simp [rho0])
    refine dss_for (ds := enumD ((cut ns (some 1) (some 63)).map .int)) (ρ1 := rhoC ns (cell0 ns) none none none) (fun i ρ' => ∃ a b c, ρ' = rhoC ns (cellZ (cell0 ns) (cut ns (some 1) (some 63)) i) a b c) (fun _ ρ' d => match d with | .tuple [a, b] => (ρ'.set 3 (some (.dat a))).set 4 (some (.dat b)) | _ => ρ') [3, 4] (fun ρ' => ∃ a b c, ρ' = rhoC ns (cellsZ ns) a b c) (passes_of rfl) rfl ?_ ⟨none, none, none, rfl⟩ ?_ ?_ ?_ ?_
    · exact OI.di (oi_en (lv := 0) am (OX.of (dx_fz (dx_slS 0 rfl rfl (Or.inl rfl) (by decide) (by decide) (dp_so (OX.dx (ox_var (d := .int 1) 1) rfl)) (dp_so (OX.dx ox_int rfl)))))) rfl
    · rintro i d ρ' hd ⟨a, b, c, rfl⟩
      obtain ⟨x, _, rfl⟩ := enumD_get hd
      exact OG.dg (ρ := rhoC ns (cellZ (cell0 ns) (cut ns (some 1) (some 63)) i) a b c) (un := unP some some) (enc := fun t : PyData × PyData => ((rhoC ns (cellZ (cell0 ns) (cut ns (some 1) (some 63)) i) a b c).set 3 (some (.dat t.1))).set 4 (some (.dat t.2))) (t := (.int (i : Nat), x)) (og_2 am (og_name 3 am) (fun _ => og_name 4 am)) rfl
    · rintro i d ρ' hd ⟨a, b, c, rfl⟩
      obtain ⟨x, hx, rfl⟩ := enumD_get hd
      rw [List.getElem?_map, Option.map_eq_some_iff] at hx
      obtain ⟨y, hy, rfl⟩ := hx
      have hi : i < 63 := by
        have h1 := (List.getElem?_eq_some_iff.mp hy).1
        have h2 := cut_len ns (some 1) (some 63)
        omega
      have hz := cellZ_succ (cell0 ns) (cut ns (some 1) (some 63)) i
      rw [List.getD_eq_getElem?_getD, hy] at hz
      generalize cellZ (cell0 ns) (cut ns (some 1) (some 63)) i = z at hz ⊢
      show DSs _ _ _ _ [some (.scr ns), some (.dat (.int 1)), some (.ml [.int z]), some (.dat (.int (i : Nat))), some (.dat (.int y)), c] _ _
      refine dss_set 5 (k := .dat (.int 0)) (OX.dx (ox_lend fun e' => ox_mod (ox_toI am (ox_var (d := .int (i : Nat)) 3)) (ox_len am (ox_var (d := .list [.int z]) 2))) ?_) ?_ am.nod (hi := by simp)
      · show some (PyData.int ((i : Nat) % 1)) = _
        rw [Int.emod_one]
      have m1 : pMul (.int y) (.int ((i : Nat) + 2)) = some (.int (y * ((i : Nat) + 2))) := if_pos (by omega)
      refine dss_sub 2 (d := .int (z + y * ((i : Nat) + 2))) (j := 0) (n := 0) (ds := [.int z]) (k0 := .ml [.int z]) (OX.dx (ox_lend fun e' => ox_add (ox_ix (ox_var (d := .list [.int z]) 2) (ox_var (d := .int 0) 5)) (ox_mul (ox_var (d := .int y) 4) (ox_add (ox_var (d := .int (i : Nat)) 3) ox_int))) ?_) (pe_var rfl (by first | exact Or.inl rfl | exact Or.inr (Or.inl rfl) | exact Or.inr (Or.inr rfl)) (by decide) (by decide)) (OX.dx (ox_var (d := .int 0) 5) rfl) rfl ?_
      · show Option.bind (Option.bind (pMul (.int y) (.int ((i : Nat) + 2))) fun x => pAdd (.int z) x) hardO = _
        rw [m1]
        rfl
      refine dss_nil ⟨some (.dat (.int (i : Nat))), some (.dat (.int y)), some (.dat (.int 0)), ?_⟩
      rw [hz]
      rfl
    · rintro ρ' ⟨a, b, c, rfl⟩
      refine ⟨a, b, c, ?_⟩
      rw [enumD_len, List.length_map]
      rfl
    · rintro ρ' ⟨a, b, c, rfl⟩
      refine dss_fz 2 (ds := [.int (cellsZ ns)]) ?_
      exact dss_ret (OX.dx (ox_var 2) rfl) ⟨rfl, fin0 rfl⟩
end
end Ov
set_option Elab.async false
set_option linter.all false
set_option maxRecDepth 100000
set_option maxHeartbeats 4000000
namespace Ov
open PySem PySem.Spec PyProof.Rows L2
section
variable {P : Program} {w : World} {K : PySem.W.Frag} {mg : Str → Option Value} {base : Heap} {f : Addr} {fd : FuncData}
def s__law_same (r : PyData → PyData → OP) (v_got v_goal : PyData) : Option (Fl Unit Unit Unit) := (Option.bind (Option.bind (Option.map (fun a1 => PyData.bool (isL a1 || isT a1)) (some v_goal)) pB) fun a2 => bif a2 then seqF (σ1 := Empty) (Option.bind (Option.bind (Option.map (!·) (Option.bind (Option.map (fun a3 => PyData.bool (isL a3)) (some v_got)) fun a5 => Option.bind (Option.map (fun a4 => PyData.bool (isL a4)) (some v_goal)) fun b6 => pEq a5 b6)) fun a11 => bif a11 then some true else (Option.map (!·) (Option.bind (Option.map (fun a7 => PyData.bool (isT a7)) (some v_got)) fun a9 => Option.bind (Option.map (fun a8 => PyData.bool (isT a8)) (some v_goal)) fun b10 => pEq a9 b10))) fun a12 => bif a12 then seqF (σ1 := Empty) (Option.map (fun v => Fl.rt v ()) (some (PyData.bool false))) (fun s => s.elim) else (Option.map (fun v => Fl.rt v ()) (Option.bind (Option.bind (Option.map PyData.bool (Option.bind (Option.bind (some v_got) pLen) fun a18 => Option.bind (Option.bind (some v_goal) pLen) fun b19 => pEq a18 b19)) pB) fun a20 => bif a20 then Option.map PyData.bool (Option.bind (Option.bind (Option.map PyData.list (Option.bind (Option.bind (some v_got) fun a13 => Option.bind (some v_goal) fun b14 => pZ2 a13 b14) (compF (unP some some) (fun (t15 : PyData × PyData) => (some true)) (fun (t15 : PyData × PyData) => (Option.bind (some t15.1) fun a16 => (Option.bind (some t15.2) fun a17 => r a16 a17)))))) pAll) pB) else some (PyData.bool false)))) (fun s => s.elim) else (Option.bind (Option.bind (Option.map isNone (some v_goal)) fun a22 => bif a22 then some true else (Option.bind (Option.map (fun a21 => PyData.bool (isB a21 || isS a21)) (some v_goal)) pB)) fun a23 => bif a23 then seqF (σ1 := Empty) (Option.map (fun v => Fl.rt v ()) (Option.bind (Option.bind (Option.map PyData.bool (Option.bind (some v_got) fun a36 => Option.bind (some v_goal) fun b37 => pEq a36 b37)) pB) fun a38 => bif a38 then Option.map PyData.bool (Option.bind (Option.bind (Option.bind (Option.map PyData.bool (Option.bind (Option.map (fun a31 => PyData.bool (isS a31)) (some v_got)) fun a33 => Option.bind (Option.map (fun a32 => PyData.bool (isS a32)) (some v_goal)) fun b34 => pEq a33 b34)) pB) fun a35 => bif a35 then Option.map PyData.bool (Option.bind (Option.bind (Option.bind (Option.map PyData.bool (Option.bind (Option.map (fun a26 => PyData.bool (isB a26)) (some v_got)) fun a28 => Option.bind (Option.map (fun a27 => PyData.bool (isB a27)) (some v_goal)) fun b29 => pEq a28 b29)) pB) fun a30 => bif a30 then Option.map PyData.bool (Option.bind (Option.map PyData.bool (Option.bind (Option.map (fun a => PyData.bool (isNone a)) (some v_got)) fun a24 => Option.bind (Option.map (fun a => PyData.bool (isNone a)) (some v_goal)) fun b25 => pEq a24 b25)) pB) else some (PyData.bool false)) pB) else some (PyData.bool false)) pB) else some (PyData.bool false))) (fun s => s.elim) else (Option.map (fun v => Fl.rt v ()) (Option.bind (Option.bind (Option.map (fun a43 => PyData.bool (isI a43)) (some v_got)) pB) fun a44 => bif a44 then Option.map PyData.bool (Option.bind (Option.bind (Option.bind (Option.map (fun a => PyData.bool (!a)) (Option.bind (Option.map (fun a41 => PyData.bool (isB a41)) (some v_got)) pB)) pB) fun a42 => bif a42 then Option.map PyData.bool (Option.bind (Option.map PyData.bool (Option.bind (some v_got) fun a39 => Option.bind (some v_goal) fun b40 => pEq a39 b40)) pB) else some (PyData.bool false)) pB) else some (PyData.bool false)))))
def f__law_same : Nat → PyData → PyData → OP
  | 0, _, _ => none
  | n + 1, v_got, v_goal => finF (s__law_same (f__law_same n) v_got v_goal)
theorem fn__law_same (F : Fun K "_law_same" "_law_same" (top 81) f fd) (hm : mg "_law_same" = some (.ref f)) (hb : Binds K fd ["got", "goal"] []) (hbl : ∀ x ∈ blts, mg x = none) : ∀ n, Fn P w K mg base "_law_same" ["got", "goal"] (n + 2) (rel2 (f__law_same n))
  | 0 => Fn.of2 (k := 0) (m := f__law_same 0) (N := ["got", "goal", "mine", "own"]) (eN := fun _ => [none, none, none, none]) (mB := fun _ _ => none) F ⟨rfl, rfl, rfl, by decide +kernel, rfl, by decide +kernel, by decide +kernel⟩ hm hb hbl (by decide) rfl (fun _ _ => rfl) (fun _ _ _ _ _ _ _ _ _ _ _ _ z => nomatch z)
  | n + 1 => by
    have g__law_same := fn__law_same  F hm hb hbl n
    refine Fn.of2 (k := n + 1) (m := f__law_same (n + 1)) (N := ["got", "goal", "mine", "own"]) (eN := fun _ => [none, none, none, none]) (mB := s__law_same (f__law_same n)) F ⟨rfl, rfl, rfl, by decide +kernel, rfl, by decide +kernel, by decide +kernel⟩ hm hb hbl (by decide) rfl (fun _ _ => rfl) ?_
    intro cdv A outer s H E am e vs v_got v_goal
    unfold s__law_same
    exact (oss_ifR (ot_val (ox_isi2 kit_L kit_T PyProof.Rows.boot_list PyProof.Rows.boot_tuple am (ox_var 1))) (oss_ifR (ot_w (ow_or (ot_ne am (ox_isi kit_L PyProof.Rows.boot_list am (ox_var 0)) (ox_isi kit_L PyProof.Rows.boot_list am (ox_var 1))) (ow_or1 (ot_ne am (ox_isi kit_T PyProof.Rows.boot_tuple am (ox_var 0)) (ox_isi kit_T PyProof.Rows.boot_tuple am (ox_var 1)))))) (oss_ret ox_bl trivial) (oss_ret (ox_and (ox_eq am (ox_len am (ox_var 0)) (ox_len am (ox_var 1))) (ox_one (ox_all am (ox_fz (om_lc (own := [("mine", 2), ("own", 3)]) am (fun (t15 : PyData × PyData) => [some (.dat v_got), some (.dat v_goal), some (.dat t15.1), some (.dat t15.2)]) ([2] ++ ([3] ++ [])) (oi_z2 am (ox_var 0) (ox_var 1)) (blkOk_by (by rfl)) (fun s H C cl fp am => (og_2 am (og_name 2 am) (fun _ => (og_name 3 am)))) (fun s H C cl fp t15 am => ots_nil) (fun s H C cl fp t15 am => (ox_call2 am g__law_same (by omega) (ox_var 2) (ox_var 3)))))))) trivial)) (oss_ifR (ot_w (ow_or (ot_isN (ox_var 1)) (ow_or1 (ot_val (ox_isi2 kit_B kit_S PyProof.Rows.boot_bool PyProof.Rows.boot_str am (ox_var 1)))))) (oss_ret (ox_and (ox_eq am (ox_var 0) (ox_var 1)) (ox_and (ox_eq am (ox_isi kit_S PyProof.Rows.boot_str am (ox_var 0)) (ox_isi kit_S PyProof.Rows.boot_str am (ox_var 1))) (ox_and (ox_eq am (ox_isi kit_B PyProof.Rows.boot_bool am (ox_var 0)) (ox_isi kit_B PyProof.Rows.boot_bool am (ox_var 1))) (ox_one (ox_eq am (ox_isN (ox_var 0)) (ox_isN (ox_var 1))))))) trivial) (oss_ret (ox_and (ox_isi kit_I PyProof.Rows.boot_int am (ox_var 0)) (ox_and (ox_not (ox_isi kit_B PyProof.Rows.boot_bool am (ox_var 0))) (ox_one (ox_eq am (ox_var 0) (ox_var 1))))) trivial)))
end
end Ov
set_option Elab.async false
set_option linter.all false
set_option maxRecDepth 100000
set_option maxHeartbeats 4000000
namespace Ov
open PySem PySem.Spec PyProof.Rows L2
def forBody : Stmt → List Stmt
  | .For _ _ b _ _ => b
  | _ => []

abbrev N_law_place_right : List Str := ["urn", "many", "every", "place", "classes", "ahead", "lap", "row", "other", "one", "far", "home", "got", "members", "chances", "number", "line", "firsts", "k", "own"]
def lapBody : List Stmt := forBody ((defBody (top 87)).getD 0 (.Pass ⟨0, 0, 0, 0⟩))
/-- `[many + 1, len(home), place, row]` -/
def goalM (many home place row : PyData) : OP := Option.map PyData.list (Option.bind (Option.bind (Option.bind (some many) fun a => Option.bind (some (PyData.int 1)) fun b => pAdd a b) fun a => Option.map (a :: ·) (Option.bind (Option.bind (some home) pLen) fun a => Option.map (a :: ·) (Option.bind (some place) fun a => Option.map (a :: ·) (Option.bind (some row) fun a => Option.map (a :: ·) (some []))))) fun a => if List.length a ≤ 1000 then some a else none)
def lenIs (d : PyData) (n : Int) : Bool :=
  match pLen d with
  | some (.int m) => m == n
  | _ => false
theorem lenIs_eq {d : PyData} {n : Int} (h : lenIs d n = true) : pLen d = some (.int n) := by
  unfold lenIs at h
  split at h
  · rename_i m hm
    rw [hm, eq_of_beq h]
  · cases h
def lineM (row place many home : PyData) : Option Bool :=
  match row with
  | .tuple ds =>
    Option.bind (f_with_person (.tuple ds) place (.int 1)) fun later =>
    Option.bind (f_count_rows later) fun cn =>
    Option.bind (f_place_of later (.int 1)) fun p =>
    Option.bind (f_without later (.int 1)) fun back =>
    Option.bind (goalM many home place (.tuple ds)) fun goal =>
    if lenIs later ((ds.length : Nat) + 1) = true ∧ ds.length < 16 then Option.bind (f__law_same 6 (.list [.int ((ds.length : Nat) + 1), cn, p, back]) goal) pB else none
  | _ => none
section
variable {P : Program} {w : World} {K : PySem.W.Frag} {mg : Str → Option Value} {base : Heap} {C : Addr}
structure LineKit (P : Program) (w : World) (K : PySem.W.Frag) (mg : Str → Option Value) (base : Heap) (C : Addr) : Prop where
  t : LTx K C
  gl : mg "Line" = some (.ref C)
  ini : Ini P w K mg base C ["self", "row"] 2 (relLI C)
  row : Mth P w K mg base C "row" ["self"] 2 (relLR C)
  come : Mth P w K mg base C "come" ["self", "height", "place"] 5 (relLC C f_with_person)
  count : Mth P w K mg base C "count" ["self"] 7 (relLf C f_count_rows)
  leave : Mth P w K mg base C "leave" ["self", "height"] 4 (relLL C f_place_of f_without)
theorem hole_line {σ β τ : Type} {eN : σ → Rho} {eB : β → Rho} {G : τ → Rho → Prop} {t : τ} {f : Addr} {cdv : Value} {A : Around} {outer : List Env} {s : Shared} {H : Hp} {E : XK} {W : L2.WX} {e : En} {pn : List V} {u : List PyData} {many every place classes ahead row home : PyData} {k6 k8 k9 k10 k12 k13 k14 k15 k17 k18 k19 : Option Kd} {mr : Option (Fl σ β τ)}
    (am : Am (cxF P w K mg base N_law_place_right "_law_place_right" (top 87) f cdv A outer s H E) 8) (LK : LineKit P w K mg base C) (gS : Fn P w K mg base "_law_same" ["got", "goal"] 8 (rel2 (f__law_same 6)))
    (hG : ∀ κ, G t [some (.ml u), some (.dat many), some (.dat every), some (.dat place), some (.dat classes), some (.dat ahead), k6, some (.dat row), k8, k9, k10, some (.dat home), k12, k13, k14, k15, κ, k17, k18, k19])
    (hr : OSs (cxF P w K mg base N_law_place_right "_law_place_right" (top 87) f cdv A outer s H E) e ([0], pn) W [some (.ml u), some (.dat many), some (.dat every), some (.dat place), some (.dat classes), some (.dat ahead), k6, some (.dat row), k8, k9, k10, some (.dat home), k12, k13, k14, k15, none, k17, k18, k19] (lapBody.drop 13) eN eB G mr) :
    OSs (cxF P w K mg base N_law_place_right "_law_place_right" (top 87) f cdv A outer s H E) e ([0], pn) W [some (.ml u), some (.dat many), some (.dat every), some (.dat place), some (.dat classes), some (.dat ahead), k6, some (.dat row), k8, k9, k10, some (.dat home), k12, k13, k14, k15, none, k17, k18, k19] (lapBody.drop 11) eN eB G (Option.bind (lineM row place many home) fun b => bif b then mr else some (Fl.rt (PyData.bool false) t)) := fun r z => by
  obtain ⟨b, hb, z⟩ := ob z
  unfold lineM at hb
  cases row with
  | tuple ds =>
    obtain ⟨later, h1, hb⟩ := ob hb
    obtain ⟨cn, h2, hb⟩ := ob hb
    obtain ⟨p, h3, hb⟩ := ob hb
    obtain ⟨back, h4, hb⟩ := ob hb
    obtain ⟨goal, h5, hb⟩ := ob hb
    obtain ⟨⟨h6, h7⟩, hb⟩ := oi hb
    have h6 := lenIs_eq h6
    obtain ⟨same, h8, hb⟩ := ob hb
    have h9 : same = .bool b := by
      cases same with
      | bool x => cases hb; rfl
      | _ => cases hb
    subst h9
    let R : Option Kd → Rho := fun κ => [some (.ml u), some (.dat many), some (.dat every), some (.dat place), some (.dat classes), some (.dat ahead), k6, some (.dat (.tuple ds)), k8, k9, k10, some (.dat home), k12, k13, k14, k15, κ, k17, k18, k19]
    refine dss_set (ρ := R none) (ρ1 := R none) 16 (k := lnK C [.tuple ds] []) ?_ ?_ am.nod (hi := by simp [R])
    · exact dx_make (ρ1 := R none) (ds := [.tuple ds]) LK.ini (am.room.mono (by decide)) LK.gl (da_cons (ρ1 := R none) (k := .dat (.tuple ds)) (by exact OX.dx (ox_var (d := .tuple ds) 7) rfl) da_nil) ⟨ds, rfl, rfl, rfl⟩
    let l1 := lnK C [.tuple ds, later] [lIn "come", lOut "come"]
    let l2 := lnK C [.tuple ds, later, back] [lIn "come", lOut "come", lIn "leave", lOut "leave"]
    refine dss_ifR (ρ1 := R (some l2)) (b := !b) (dt_not (dt_val ?_)) (fun zb => ?_) (fun zb => ?_)
    · refine dx_call (k := .dat (.bool b)) (ρ1 := R (some l2)) (as := [.pu (.dat (.list [.int ((ds.length : Nat) + 1), cn, p, back])), .pu (.dat goal)]) gS (am.room.mono (by decide)) (da_cons (ρ1 := R (some l2)) (dx_fz (dx_lst (ds := [.int ((ds.length : Nat) + 1), cn, p, back]) ?_ (hz := (by decide : 4 ≤ sizeLine)))) (da_cons (ρ1 := R (some l2)) (OX.dx (ox_fz (om_lst (oa_cons (ox_add (ox_var (d := many) 1) ox_int) (oa_cons (ox_len am (ox_var (d := home) 11)) (oa_cons (ox_var (d := place) 3) (oa_cons (ox_var (d := .tuple ds) 7) oa_nil)))))) h5) da_nil)) rfl ⟨_, _, _, h8, rfl, rfl, rfl⟩ rfl
      refine da_cons (k := .dat (.int ((ds.length : Nat) + 1))) (ρ1 := R (some l1)) ?_ (da_cons (k := .dat cn) (ρ1 := R (some l1)) ?_ (da_cons (k := .dat p) (ρ1 := R (some l2)) ?_ (da_cons (k := .dat back) (ρ1 := R (some l2)) ?_ da_nil)))
      · exact dx_meth (ds := [.int 1, place]) (ρ1 := R (some (lnK C [.tuple ds] []))) 16 (k2 := l1) LK.t.c LK.come (am.room.mono (by decide)) (da_cons (ρ1 := R (some (lnK C [.tuple ds] []))) (k := .dat (.int 1)) (by exact OX.dx (ox_int (i := 1)) rfl) (da_cons (ρ1 := R (some (lnK C [.tuple ds] []))) (k := .dat place) (by exact OX.dx (ox_var (d := place) 3) rfl) da_nil)) ⟨[.tuple ds], [], .tuple ds, .int 1, place, later, (ds.length : Nat), rfl, h1, rfl, by omega, by omega, by simp, by simp, h6, rfl, rfl, rfl⟩
      · exact OX.dx (OX.of (dx_meth0S 16 LK.t.c LK.count (am.room.mono (by decide)) ⟨[.tuple ds, later], [lIn "come", lOut "come"], later, cn, rfl, h2, rfl, rfl, rfl⟩)) rfl
      · exact dx_meth (ds := [.int 1]) (ρ1 := R (some l1)) 16 (k2 := l2) LK.t.c LK.leave (am.room.mono (by decide)) (da_cons (ρ1 := R (some l1)) (k := .dat (.int 1)) (by exact OX.dx (ox_int (i := 1)) rfl) da_nil) ⟨[.tuple ds, later], [lIn "come", lOut "come"], later, .int 1, p, back, rfl, h3, h4, by simp, by simp, rfl, rfl, rfl⟩
      · exact OX.dx (OX.of (dx_meth0S 16 LK.t.c LK.row (am.room.mono (by decide)) ⟨.ml [.tuple ds, later, back], .ml [lIn "come", lOut "come", lIn "leave", lOut "leave"], [.tuple ds, later, back], back, MlK.ml, rfl, rfl, rfl, rfl⟩)) rfl
    · cases b with
      | true => cases zb
      | false =>
        cases z
        exact dss_ret (OX.dx ox_bl rfl) ⟨rfl, hG _⟩
    · cases b with
      | false => cases zb
      | true => exact dss_forget 16 (hr r z)
  | _ => cases hb

structure Fns90 (P : Program) (w : World) (K : PySem.W.Frag) (mg : Str → Option Value) (base : Heap) : Prop where
  g_with_person : Fn P w K mg base "with_person" ["row", "place", "height"] 2 (rel3 f_with_person)
  g_leads : Fn P w K mg base "leads" ["one", "other"] 8 (rel2 f_leads)
  g_count_rows : Fn P w K mg base "count_rows" ["row"] 6 (rel1 f_count_rows)
  g_run_list : Fn P w K mg base "run_list" ["row", "height"] 5 (rel2 f_run_list)
  g_runs_runs : Fn P w K mg base "runs_runs" ["row"] 5 (rel1 f_runs)
  g_signature : Fn P w K mg base "signature" ["row"] 5 (rel1 f_signature)
  g__law_same : Fn P w K mg base "_law_same" ["got", "goal"] 8 (rel2 (f__law_same 6))
  g_all_rows : Fn P w K mg base "all_rows" ["row"] 8 (rel1 f_all_rows)
  g_without : Fn P w K mg base "without" ["row", "height"] 3 (rel2 f_without)
  g_number_of : Fn P w K mg base "number_of" ["row", "other"] 9 (rel2 f_number_of)
  g_chances_of : Fn P w K mg base "chances_of" ["row", "height"] 9 (rel2 f_chances_of)
  g_places_of : Fn P w K mg base "places_of" ["row", "height"] 9 (rel2 f_places_of)
  g_expected_place : Fn P w K mg base "expected_place" ["row", "height"] 9 (rel2 f_expected_place)
  g_free_people : Fn P w K mg base "free_people" ["row"] 6 (rel1 f_free_people)
  g_signature_number : Fn P w K mg base "signature_number" ["many", "signature"] 5 (rel2 f_signature_number)
  g_lot_row : Fn P w K mg base "lot_row" ["many", "signature"] 4 (rel2 f_lot_row)
  g_ranks : Fn P w K mg base "ranks" ["row"] 2 (rel1 f_ranks)
  g_bar : Fn P w K mg base "bar" ["one", "other"] 7 (rel2 f_bar)
  g_signature_at : Fn P w K mg base "signature_at" ["many", "number"] 4 (rel2 f_signature_at)
  g__law_classes : Fn P w K mg base "_law_classes" ["every", "place"] 4 (rel2 f__law_classes)
  g_count_lots : Fn P w K mg base "count_lots" ["many"] 2 (rel1 f_count_lots)
  g__law_every : Fn P w K mg base "_law_every" ["many"] 2 (rel1 f__law_every)

def lapB (v_many v_every v_place v_classes v_ahead v_row v_other : PyData) : Option (Fl (Unit) Unit Unit) := (Option.bind (Option.bind (some v_row) fun a1 => (Option.bind (some v_place) fun a2 => (Option.bind (some (PyData.int 1)) fun a3 => f_with_person a1 a2 a3))) fun v_one => (Option.bind (Option.bind (some v_other) fun a4 => (Option.bind (some v_place) fun a5 => (Option.bind (some (PyData.int 1)) fun a6 => f_with_person a4 a5 a6))) fun v_far => (Option.bind (Option.bind (Option.map PyData.list (Option.bind (Option.bind (some v_classes) pIt) (compF some (fun (t7 : PyData) => (Option.bind (some v_row) fun a8 => Option.bind (some t7) fun b9 => pIn a8 b9)) (fun (t7 : PyData) => (some t7))))) fun a10 => Option.bind (some (PyData.int 0)) fun b11 => pIx a10 b11) fun v_home => (Option.bind (Option.map PyData.list (Option.bind (Option.bind (some v_one) fun a28 => Option.map (a28 :: ·) (Option.bind (Option.bind (some v_one) fun a12 => (Option.bind (some v_far) fun a13 => f_leads a12 a13)) fun a27 => Option.map (a27 :: ·) (Option.bind (Option.bind (some v_one) f_count_rows) fun a26 => Option.map (a26 :: ·) (Option.bind (Option.bind (some v_one) fun a15 => (Option.bind (some (PyData.int 1)) fun a16 => f_run_list a15 a16)) fun a25 => Option.map (a25 :: ·) (Option.bind (Option.bind (Option.bind (some v_one) f_runs) fun a18 => Option.bind (some (PyData.int 0)) fun b19 => pIx a18 b19) fun a24 => Option.map (a24 :: ·) (Option.bind (Option.bind (Option.bind (some v_one) f_signature) fun a21 => Option.bind (some (PyData.int 0)) fun b22 => pIx a21 b22) fun a23 => Option.map (a23 :: ·) (some []))))))) fun a29 => if List.length a29 ≤ 1000 then some a29 else none)) fun v_got => (Option.bind (Option.map (!·) (Option.bind (Option.bind (some v_got) fun a52 => (Option.bind (Option.map PyData.list (Option.bind (Option.bind (Option.bind (Option.bind (Option.bind (some v_row) fun a => Option.bind (some none) fun i => Option.bind (Option.map some (Option.bind (some v_place) pInt)) fun j => pSl a i j) fun a31 => Option.bind (Option.map (fun a30 => PyData.tuple [a30]) (some (PyData.int 1))) fun b32 => pAdd a31 b32) fun a33 => Option.bind (Option.bind (some v_row) fun a => Option.bind (Option.map some (Option.bind (some v_place) pInt)) fun i => Option.bind (some none) fun j => pSl a i j) fun b34 => pAdd a33 b34) fun a50 => Option.map (a50 :: ·) (Option.bind (Option.map PyData.bool (Option.bind (some v_other) fun a35 => Option.bind (some v_home) fun b36 => pIn a35 b36)) fun a49 => Option.map (a49 :: ·) (Option.bind (Option.bind (some v_home) pLen) fun a48 => Option.map (a48 :: ·) (Option.bind (Option.map PyData.list (Option.bind (Option.bind (Option.bind (some v_many) fun a37 => Option.bind (some (PyData.int 1)) fun b38 => pAdd a37 b38) fun a39 => pRg (PyData.int 0) a39) (compF some (fun (t40 : PyData) => (some true)) (fun (t40 : PyData) => (Option.bind (some t40) fun a41 => (Option.map (fun a42 => PyData.tuple [a41, a42]) (some t40))))))) fun a47 => Option.map (a47 :: ·) (Option.bind (Option.bind (some v_place) fun a43 => (Option.map (fun a44 => PyData.tuple [a43, a44]) (some v_place))) fun a46 => Option.map (a46 :: ·) (Option.bind (some v_place) fun a45 => Option.map (a45 :: ·) (some []))))))) fun a51 => if List.length a51 ≤ 1000 then some a51 else none)) fun a53 => (f__law_same 6) a52 a53)) pB)) fun a54 => bif a54 then seqF (σ1 := Empty) (Option.map (fun v => Fl.rt v ()) (some (PyData.bool false))) (fun s => s.elim) else (Option.bind (Option.bind (some v_one) f_all_rows) fun v_members => (Option.bind (Option.map (!·) (Option.bind (Option.bind (Option.map PyData.list (Option.bind (Option.map PyData.list (Option.bind (Option.map PyData.list (Option.bind (Option.bind (some v_members) pIt) (compF some (fun (t56 : PyData) => (some true)) (fun (t56 : PyData) => (Option.bind (some t56) fun a57 => (Option.bind (some (PyData.int 1)) fun a58 => f_without a57 a58)))))) pSort)) fun a62 => Option.map (fun b => [a62, b]) (Option.map PyData.list (Option.bind (Option.bind (some v_members) pIt) (compF some (fun (t59 : PyData) => (some true)) (fun (t59 : PyData) => (Option.bind (some v_one) fun a60 => (Option.bind (some t59) fun a61 => f_number_of a60 a61)))))))) fun a65 => (Option.bind (Option.map PyData.list (Option.bind (Option.map PyData.list (Option.bind (some v_home) pSort)) fun a64 => Option.map (fun b => [a64, b]) (Option.map PyData.list (Option.bind (Option.bind (some v_home) pLen) fun a63 => pRg (PyData.int 0) a63)))) fun a66 => (f__law_same 6) a65 a66)) pB)) fun a67 => bif a67 then seqF (σ1 := Empty) (Option.map (fun v => Fl.rt v ()) (some (PyData.bool false))) (fun s => s.elim) else (Option.bind (Option.bind (Option.bind (Option.bind (some v_many) fun a68 => Option.bind (some (PyData.int 1)) fun b69 => pAdd a68 b69) fun a70 => pRg (PyData.int 0) a70) (compF some (fun (t71 : PyData) => (some true)) (fun (t71 : PyData) => (Option.bind (Option.bind (Option.map PyData.bool (Option.bind (some t71) fun a72 => Option.bind (some v_place) fun b73 => pEq a72 b73)) pToI) fun a74 => (Option.map (fun a75 => PyData.tuple [a74, a75]) (some (PyData.int 1))))))) fun v_chances => (Option.bind (Option.map (!·) (Option.bind (Option.bind (Option.map PyData.list (Option.bind (Option.bind (Option.bind (some v_one) fun a76 => (Option.bind (some (PyData.int 1)) fun a77 => f_chances_of a76 a77)) fun a88 => Option.map (a88 :: ·) (Option.bind (Option.bind (some v_one) fun a78 => (Option.bind (some (PyData.int 1)) fun a79 => f_places_of a78 a79)) fun a87 => Option.map (a87 :: ·) (Option.bind (Option.bind (some v_one) fun a80 => (Option.bind (some (PyData.int 1)) fun a81 => f_expected_place a80 a81)) fun a86 => Option.map (a86 :: ·) (Option.bind (Option.map PyData.bool (Option.bind (some (PyData.int 1)) fun a83 => Option.bind (Option.bind (some v_one) f_free_people) fun b84 => pIn a83 b84)) fun a85 => Option.map (a85 :: ·) (some []))))) fun a89 => if List.length a89 ≤ 1000 then some a89 else none)) fun a97 => (Option.bind (Option.map PyData.list (Option.bind (Option.bind (some (PyData.list v_chances)) fun a95 => Option.map (a95 :: ·) (Option.bind (Option.map PyData.list (Option.map (fun a => [a]) (some v_place))) fun a94 => Option.map (a94 :: ·) (Option.bind (Option.bind (some v_place) fun a90 => (Option.map (fun a91 => PyData.tuple [a90, a91]) (some (PyData.int 1)))) fun a93 => Option.map (a93 :: ·) (Option.bind (some (PyData.bool false)) fun a92 => Option.map (a92 :: ·) (some []))))) fun a96 => if List.length a96 ≤ 1000 then some a96 else none)) fun a98 => (f__law_same 6) a97 a98)) pB)) fun a99 => bif a99 then seqF (σ1 := Empty) (Option.map (fun v => Fl.rt v ()) (some (PyData.bool false))) (fun s => s.elim) else (Option.bind (Option.bind (Option.bind (some v_many) fun a100 => Option.bind (some (PyData.int 1)) fun b101 => pAdd a100 b101) fun a103 => (Option.bind (Option.bind (some v_one) f_signature) fun a104 => f_signature_number a103 a104)) fun v_number => (Option.bind (Option.bind (Option.map (!·) (Option.bind (some v_ahead) fun a => Option.bind (some v_number) fun b => Option.bind (Option.bind (some v_ahead) fun a105 => Option.bind (Option.bind (some v_classes) pLen) fun b106 => pAdd a105 b106) fun c => pCh pLe pLt a b c)) fun a114 => bif a114 then some true else (Option.map (!·) (Option.bind (Option.bind (Option.bind (Option.bind (some v_many) fun a107 => Option.bind (some (PyData.int 1)) fun b108 => pAdd a107 b108) fun a110 => (Option.bind (Option.bind (some v_one) f_signature) fun a111 => f_lot_row a110 a111)) fun a112 => (Option.bind (some v_one) fun a113 => f_leads a112 a113)) pB))) fun a115 => bif a115 then seqF (σ1 := Empty) (Option.map (fun v => Fl.rt v ()) (some (PyData.bool false))) (fun s => s.elim) else (Option.bind (lineM v_row v_place v_many v_home) fun b => bif b then (Option.bind (Option.bind (Option.bind (some v_place) fun a118 => Option.bind (Option.bind (some (PyData.int 0)) fun a116 => (Option.map (fun a117 => PyData.tuple [a116, a117]) (some v_many))) fun b119 => pIn a118 b119) fun a132 => bif a132 then (Option.bind (Option.map (!·) (Option.bind (Option.bind (some v_row) fun a120 => (Option.bind (some v_other) fun a121 => f_leads a120 a121)) fun a124 => Option.bind (Option.map PyData.bool (Option.bind (some v_other) fun a122 => Option.bind (some v_home) fun b123 => pIn a122 b123)) fun b125 => pEq a124 b125)) fun a131 => bif a131 then some true else (Option.map (!·) (Option.bind (Option.bind (Option.bind (Option.bind (some v_one) f_signature) fun a => Option.bind (Option.map some (Option.bind (some (PyData.int 1)) pInt)) fun i => Option.bind (some none) fun j => pSl a i j) fun a129 => (Option.bind (Option.bind (Option.bind (some v_row) f_ranks) f_signature) fun a130 => (f__law_same 6) a129 a130)) pB))) else some false) fun a133 => bif a133 then seqF (σ1 := Empty) (Option.map (fun v => Fl.rt v ()) (some (PyData.bool false))) (fun s => s.elim) else (Option.bind (Option.bind (Option.bind (Option.bind (some v_row) fun a134 => (Option.bind (some v_other) fun a135 => f_leads a134 a135)) pB) fun a138 => bif a138 then (Option.map (!·) (Option.bind (some v_other) fun a136 => Option.bind (some v_home) fun b137 => pIn a136 b137)) else some false) fun a139 => bif a139 then seqF (σ1 := Empty) (Option.map (fun v => Fl.rt v ()) (some (PyData.bool false))) (fun s => s.elim) else (Option.bind (Option.bind (Option.map (!·) (Option.bind (some v_other) fun a140 => Option.bind (some v_home) fun b141 => pIn a140 b141)) fun a146 => bif a146 then (Option.bind (Option.bind (some v_one) fun a142 => (Option.bind (some v_far) fun a143 => f_bar a142 a143)) fun a144 => Option.bind (some (PyData.int 1)) fun b145 => pEq a144 b145) else some false) fun a147 => bif a147 then seqF (σ1 := Empty) (Option.map (fun v => Fl.rt v ()) (some (PyData.bool false))) (fun s => s.elim) else (some (Fl.nx ()))))) else some (Fl.rt (PyData.bool false) ())))))))))))))
theorem lap_rest (B : Fns90 P w K mg base) (LK : LineKit P w K mg base C) {a b c : Int} {ns : List Int} {f : Addr} {cdv : Value} {A : Around} {outer : List Env} {s : Shared} {H : Hp} {E : XK} {W : L2.WX} {e : En} {pn : List V} (am : Am (cxF P w K mg base N_law_place_right "_law_place_right" (top 87) f cdv A outer s H E) 8) (v_many v_every v_place v_classes v_ahead v_row v_other : PyData) : OSs (cxF P w K mg base N_law_place_right "_law_place_right" (top 87) f cdv A outer s H E) e ([0], pn) W [some (.ml (urnL a b c)), some (.dat v_many), some (.dat v_every), some (.dat v_place), some (.dat v_classes), some (.dat v_ahead), none, some (.dat v_row), some (.dat v_other), none, none, none, none, none, none, none, none, none, none, none] (lapBody.drop 1) (fun (t : Unit) => [some (.ml (urnL a b c)), some (.dat v_many), some (.dat v_every), some (.dat v_place), some (.dat v_classes), some (.dat v_ahead), none, none, none, none, none, none, none, none, none, none, none, none, none, none]) e0 (fun _ ρ => ρ[0]? = some (some (.ml (urnL a b c)))) (lapB v_many v_every v_place v_classes v_ahead v_row v_other) := by
  unfold lapB
  exact (oss_parT Kd.dat Kd.dat am 9 10 (ox_call3 am B.g_with_person (by decide) (ox_var 7) (ox_var 3) ox_int) (ox_call3 am B.g_with_person (by decide) (ox_var 8) (ox_var 3) ox_int) (fun v_one v_far => (oss_let am 11 (ox_ix (ox_fz (om_lc (own := [("own", 19)]) am (fun (t7 : PyData) => [some (.ml (urnL a b c)), some (.dat v_many), some (.dat v_every), some (.dat v_place), some (.dat v_classes), some (.dat v_ahead), none, some (.dat v_row), some (.dat v_other), some (.dat v_one), some (.dat v_far), none, none, none, none, none, none, none, none, some (.dat t7)]) [19] (oi_x am (ox_var 4)) (blkOk_by (by rfl)) (fun s H C cl fp am => (og_name 19 am)) (fun s H C cl fp t7 am => (ots_one (ot_in am (ox_var 7) (ox_var 19)))) (fun s H C cl fp t7 am => (ox_var 19)))) ox_int) (fun v_home => (oss_let am 12 (ox_fz (om_lst (oa_cons (ox_var 9) (oa_cons (ox_call2 am B.g_leads (by decide) (ox_var 9) (ox_var 10)) (oa_cons (ox_call1 am B.g_count_rows (by decide) (ox_var 9)) (oa_cons (ox_call2 am B.g_run_list (by decide) (ox_var 9) ox_int) (oa_cons (ox_ix (ox_call1 am B.g_runs_runs (by decide) (ox_var 9)) ox_int) (oa_cons (ox_ix (ox_call1 am B.g_signature (by decide) (ox_var 9)) ox_int) oa_nil)))))))) (fun v_got => (oss_ifR (ot_not (ot_val (ox_call2 am B.g__law_same (by decide) (ox_var 12) (ox_fz (om_lst (oa_cons (ox_add (ox_add (ox_sl (ox_var 7) oq_no (oq_so (ox_var 3))) (ox_tup1 ox_int)) (ox_sl (ox_var 7) (oq_so (ox_var 3)) oq_no)) (oa_cons (ox_in am (ox_var 8) (ox_var 11)) (oa_cons (ox_len am (ox_var 11)) (oa_cons (ox_fz (om_lc (own := [("k", 18)]) am (fun (t40 : PyData) => [some (.ml (urnL a b c)), some (.dat v_many), some (.dat v_every), some (.dat v_place), some (.dat v_classes), some (.dat v_ahead), none, some (.dat v_row), some (.dat v_other), some (.dat v_one), some (.dat v_far), some (.dat v_home), some (.dat v_got), none, none, none, none, none, some (.dat t40), none]) [18] (oi_rg1 am (ox_add (ox_var 1) ox_int)) (blkOk_by (by rfl)) (fun s H C cl fp am => (og_name 18 am)) (fun s H C cl fp t40 am => ots_nil) (fun s H C cl fp t40 am => (ox_tup2 (ox_var 18) (ox_var 18))))) (oa_cons (ox_tup2 (ox_var 3) (ox_var 3)) (oa_cons (ox_var 3) oa_nil))))))))))) (oss_ret ox_bl rfl) (oss_let am 13 (ox_call1 am B.g_all_rows (by decide) (ox_var 9)) (fun v_members => (oss_ifR (ot_not (ot_val (ox_call2 am B.g__law_same (by decide) (ox_fz (om_lst2 (ox_fz (om_sort am (ox_fz (om_lc (own := [("own", 19)]) am (fun (t56 : PyData) => [some (.ml (urnL a b c)), some (.dat v_many), some (.dat v_every), some (.dat v_place), some (.dat v_classes), some (.dat v_ahead), none, some (.dat v_row), some (.dat v_other), some (.dat v_one), some (.dat v_far), some (.dat v_home), some (.dat v_got), some (.dat v_members), none, none, none, none, none, some (.dat t56)]) [19] (oi_x am (ox_var 13)) (blkOk_by (by rfl)) (fun s H C cl fp am => (og_name 19 am)) (fun s H C cl fp t56 am => ots_nil) (fun s H C cl fp t56 am => (ox_call2 am B.g_without (by decide) (ox_var 19) ox_int)))))) (ox_fz (om_lc (own := [("own", 19)]) am (fun (t59 : PyData) => [some (.ml (urnL a b c)), some (.dat v_many), some (.dat v_every), some (.dat v_place), some (.dat v_classes), some (.dat v_ahead), none, some (.dat v_row), some (.dat v_other), some (.dat v_one), some (.dat v_far), some (.dat v_home), some (.dat v_got), some (.dat v_members), none, none, none, none, none, some (.dat t59)]) [19] (oi_x am (ox_var 13)) (blkOk_by (by rfl)) (fun s H C cl fp am => (og_name 19 am)) (fun s H C cl fp t59 am => ots_nil) (fun s H C cl fp t59 am => (ox_call2 am B.g_number_of (by decide) (ox_var 9) (ox_var 19))))))) (ox_fz (om_lst2 (ox_fz (om_sort am (ox_var 11))) (ox_fz (om_listRg1 am (ox_len am (ox_var 11))))))))) (oss_ret ox_bl rfl) (oss_lc (own := [("k", 18)]) am 14 (fun (t71 : PyData) => [some (.ml (urnL a b c)), some (.dat v_many), some (.dat v_every), some (.dat v_place), some (.dat v_classes), some (.dat v_ahead), none, some (.dat v_row), some (.dat v_other), some (.dat v_one), some (.dat v_far), some (.dat v_home), some (.dat v_got), some (.dat v_members), none, none, none, none, some (.dat t71), none]) [18] (oi_rg1 am (ox_add (ox_var 1) ox_int)) (blkOk_by (by rfl)) (fun s H C cl fp am => (og_name 18 am)) (fun s H C cl fp t71 am => ots_nil) (fun s H C cl fp t71 am => (ox_tup2 (ox_toI am (ox_eq am (ox_var 18) (ox_var 3))) ox_int)) (fun v_chances => (oss_fz 14 (oss_ifR (ot_not (ot_val (ox_call2 am B.g__law_same (by decide) (ox_fz (om_lst (oa_cons (ox_call2 am B.g_chances_of (by decide) (ox_var 9) ox_int) (oa_cons (ox_call2 am B.g_places_of (by decide) (ox_var 9) ox_int) (oa_cons (ox_call2 am B.g_expected_place (by decide) (ox_var 9) ox_int) (oa_cons (ox_in am ox_int (ox_call1 am B.g_free_people (by decide) (ox_var 9))) oa_nil)))))) (ox_fz (om_lst (oa_cons (ox_var 14) (oa_cons (ox_fz (om_lst1 (ox_var 3))) (oa_cons (ox_tup2 (ox_var 3) ox_int) (oa_cons ox_bl oa_nil))))))))) (oss_ret ox_bl rfl) (oss_let am 15 (ox_call2 am B.g_signature_number (by decide) (ox_add (ox_var 1) ox_int) (ox_call1 am B.g_signature (by decide) (ox_var 9))) (fun v_number => (oss_ifR (ot_w (ow_or (ot_not (ot_chain (fun i j => decide (i ≤ j)) (fun i j => decide (i < j)) op_le op_lt ch_le ch_lt (ox_var 5) (ox_var 15) (ox_add (ox_var 5) (ox_len am (ox_var 4))))) (ow_or1 (ot_not (ot_val (ox_call2 am B.g_leads (by decide) (ox_call2 am B.g_lot_row (by decide) (ox_add (ox_var 1) ox_int) (ox_call1 am B.g_signature (by decide) (ox_var 9))) (ox_var 9))))))) (oss_ret ox_bl rfl) (hole_line am LK B.g__law_same (fun _ => rfl) (oss_ifR (ot_w (ow_and (ot_in am (ox_var 3) (ox_tup2 ox_int (ox_var 1))) (ow_and1 (ot_w (ow_or (ot_ne am (ox_call2 am B.g_leads (by decide) (ox_var 7) (ox_var 8)) (ox_in am (ox_var 8) (ox_var 11))) (ow_or1 (ot_not (ot_val (ox_call2 am B.g__law_same (by decide) (ox_sl (ox_call1 am B.g_signature (by decide) (ox_var 9)) (oq_so ox_int) oq_no) (ox_call1 am B.g_signature (by decide) (ox_call1 am B.g_ranks (by decide) (ox_var 7)))))))))))) (oss_ret ox_bl rfl) (oss_ifR (ot_w (ow_and (ot_val (ox_call2 am B.g_leads (by decide) (ox_var 7) (ox_var 8))) (ow_and1 (ot_notIn am (ox_var 8) (ox_var 11))))) (oss_ret ox_bl rfl) (oss_ifR (ot_w (ow_and (ot_notIn am (ox_var 8) (ox_var 11)) (ow_and1 (ot_eq am (ox_call2 am B.g_bar (by decide) (ox_var 9) (ox_var 10)) ox_int)))) (oss_ret ox_bl rfl) (oss_nil [7, 8, 9, 10, 11, 12, 13, 14, 15]))))))))))))))))))))))
def endB (v_many v_every v_place v_classes v_ahead : PyData) : Option (Fl (Unit) Unit Unit) := (Option.bind (Option.bind (Option.bind (some v_ahead) fun a3 => Option.bind (Option.bind (some v_ahead) fun a1 => Option.bind (Option.bind (some v_classes) pLen) fun b2 => pAdd a1 b2) fun b4 => pRg a3 b4) (compF some (fun (t5 : PyData) => (some true)) (fun (t5 : PyData) => (Option.bind (Option.bind (Option.bind (some v_many) fun a6 => Option.bind (some (PyData.int 1)) fun b7 => pAdd a6 b7) fun a8 => (Option.bind (some t5) fun a9 => f_signature_at a8 a9)) fun a10 => Option.bind (some (PyData.int 0)) fun b11 => pIx a10 b11)))) fun v_firsts => (Option.map (fun v => Fl.rt v ()) (Option.map PyData.bool (Option.bind (some (PyData.list v_firsts)) fun a14 => Option.bind (Option.bind (Option.map PyData.list (Option.map (fun a => [a]) (some v_place))) fun a12 => Option.bind (Option.bind (some v_classes) pLen) fun b13 => pMul a12 b13) fun b15 => pEq a14 b15))))
theorem end_rest (B : Fns90 P w K mg base) {a b c : Int} {ns : List Int} {f : Addr} {cdv : Value} {A : Around} {outer : List Env} {s : Shared} {H : Hp} {E : XK} {W : L2.WX} {e : En} {pn : List V} (am : Am (cxF P w K mg base N_law_place_right "_law_place_right" (top 87) f cdv A outer s H E) 8) (v_many v_every v_place v_classes v_ahead : PyData) : OSs (cxF P w K mg base N_law_place_right "_law_place_right" (top 87) f cdv A outer s H E) e ([0], pn) W [some (.ml (urnL a b c)), some (.dat v_many), some (.dat v_every), some (.dat v_place), some (.dat v_classes), some (.dat v_ahead), none, none, none, none, none, none, none, none, none, none, none, none, none, none] ((defBody (top 87)).drop 1) (fun (t : Unit) => [some (.ml (urnL a b c)), some (.dat v_many), some (.dat v_every), some (.dat v_place), some (.dat v_classes), some (.dat v_ahead), none, none, none, none, none, none, none, none, none, none, none, none, none, none]) e0 (fun _ ρ => ρ[0]? = some (some (.ml (urnL a b c)))) (endB v_many v_every v_place v_classes v_ahead) := by
  unfold endB
  exact (oss_lc (own := [("k", 18)]) am 17 (fun (t5 : PyData) => [some (.ml (urnL a b c)), some (.dat v_many), some (.dat v_every), some (.dat v_place), some (.dat v_classes), some (.dat v_ahead), none, none, none, none, none, none, none, none, none, none, none, none, some (.dat t5), none]) [18] (oi_rg2 am (ox_var 5) (ox_add (ox_var 5) (ox_len am (ox_var 4)))) (blkOk_by (by rfl)) (fun s H C cl fp am => (og_name 18 am)) (fun s H C cl fp t5 am => ots_nil) (fun s H C cl fp t5 am => (ox_ix (ox_call2 am B.g_signature_at (by decide) (ox_add (ox_var 1) ox_int) (ox_var 18)) ox_int)) (fun v_firsts => (oss_fz 17 (oss_ret (ox_eq am (ox_var 17) (ox_mul (ox_fz (om_lst1 (ox_var 3))) (ox_len am (ox_var 4)))) rfl))))
end
end Ov
set_option Elab.async false
set_option linter.all false
set_option maxRecDepth 100000
set_option maxHeartbeats 4000000
namespace Ov
open PySem PySem.Spec PyProof.Rows L2
/-! ### draws, one after another -/
def dA (a n : Int) : Int := if 0 < a then a / n else a
def dC (a c : Int) : Int := if 0 < a then c else c + 1
theorem takeU_eq {a b c n : Int} : takeU a b c n = urnL (dA a n) b (dC a c) := by
  unfold takeU dA dC
  by_cases h : 0 < a
  · rw [if_pos h, if_pos h, if_pos h]
  · rw [if_neg h, if_neg h, if_neg h]
theorem dC_le {a c : Int} : c ≤ dC a c ∧ dC a c ≤ c + 1 := by
  unfold dC
  split <;> omega
theorem takeV_in {a b c n : Int} (h : 0 < n) : 0 ≤ takeV a b c n ∧ takeV a b c n < n := by
  unfold takeV
  split
  · exact ⟨Int.emod_nonneg _ (by omega), Int.emod_lt_of_pos _ h⟩
  · exact ⟨Int.emod_nonneg _ (by omega), Int.emod_lt_of_pos _ h⟩
theorem atI_some {ds : List PyData} {i : Int} (h0 : 0 ≤ i) (h1 : i < (ds.length : Nat)) : ∃ x ∈ ds, atI ds i = some x := by
  have h2 : i.toNat < ds.length := by omega
  refine ⟨ds[i.toNat], List.getElem_mem h2, ?_⟩
  unfold atI ixN
  rw [if_pos h0, if_pos h1]
  exact List.getElem?_eq_getElem h2
/-- a and c of the urn behind so many draws below n -/
def dN (n : Int) : Nat → Int × Int → Int × Int
  | 0, p => p
  | k + 1, p => (dA (dN n k p).1 n, dC (dN n k p).1 (dN n k p).2)
theorem dN_c {n : Int} {p : Int × Int} : ∀ k : Nat, p.2 ≤ (dN n k p).2 ∧ (dN n k p).2 ≤ p.2 + (k : Nat)
  | 0 => by simp [dN]
  | k + 1 => by
    have h1 := dN_c (n := n) (p := p) k
    have h2 := dC_le (a := (dN n k p).1) (c := (dN n k p).2)
    simp only [dN]
    omega
abbrev urnP (b : Int) (p : Int × Int) : List PyData := urnL p.1 b p.2
theorem takeU_dN {b n : Int} {k : Nat} {p : Int × Int} : takeU (dN n k p).1 b (dN n k p).2 n = urnP b (dN n (k + 1) p) := takeU_eq
def isNx {σ β τ : Type} : Option (Fl σ β τ) → Bool
  | some (.nx _) => true
  | _ => false
theorem isNx_unit {β τ : Type} {m : Option (Fl Unit β τ)} (h : isNx m = true) : m = some (.nx ()) := by
  cases m with
  | none => cases h
  | some r => cases r <;> first | rfl | cases h
/-! ### a shorter one at a place -/
def rtOf {σ β τ : Type} : Option (Fl σ β τ) → OP
  | some (.rt v _) => some v
  | _ => none
theorem rtOf_some {σ β : Type} {m : Option (Fl σ β Unit)} {v : PyData} (h : rtOf m = some v) : m = some (.rt v ()) := by
  cases m with
  | none => cases h
  | some r => cases r <;> first | (cases h; rfl) | cases h
def f_place_right (many every place classes ahead : PyData) : OP :=
  match every with
  | .list ds => if ds.all fun x => ds.all fun y => isNx (lapB many (.list ds) place classes ahead x y) then rtOf (endB many (.list ds) place classes ahead) else none
  | _ => none
def relPR : Rel := fun ks ks' r => ∃ a b c many ds place classes ahead v, (0 < (ds.length : Int) ∧ (ds.length : Int) < 1073741824) ∧ (0 ≤ c ∧ c < 900000) ∧ f_place_right many (.list ds) place classes ahead = some v ∧
  ks = [.ml (urnL a b c), .dat many, .dat (.list ds), .dat place, .dat classes, .dat ahead] ∧ ks' = [.ml (urnP b (dN (ds.length : Nat) 6 (a, c))), .dat many, .dat (.list ds), .dat place, .dat classes, .dat ahead] ∧ r = .ret (.dat v)
section
variable {P : Program} {w : World} {K : PySem.W.Frag} {mg : Str → Option Value} {base : Heap} {C f : Addr} {fd : FuncData}
abbrev rPR (u : List PyData) (many every place classes ahead : PyData) : Rho := [some (.ml u), some (.dat many), some (.dat every), some (.dat place), some (.dat classes), some (.dat ahead), none, none, none, none, none, none, none, none, none, none, none, none, none, none]
theorem fn_place_right (B : Fns90 P w K mg base) (LK : LineKit P w K mg base C) (g_of : Fn P w K mg base "_law_of" ["urn", "some"] 3 relOf) (F : Fun K "_law_place_right" "_law_place_right" (top 87) f fd) (hm : mg "_law_place_right" = some (.ref f)) (hb : Binds K fd ["urn", "many", "every", "place", "classes", "ahead"] []) (hbl : ∀ x ∈ blts, mg x = none) : Fn P w K mg base "_law_place_right" ["urn", "many", "every", "place", "classes", "ahead"] 10 relPR := by
  refine Fn.of (k := 9) (N := N_law_place_right) F ⟨rfl, rfl, rfl, by decide +kernel, rfl, by decide +kernel, by decide +kernel⟩ hm hb ?_ ?_
  · rintro ks ks' r ⟨a, b, c, many, ds, place, classes, ahead, v, _, _, _, rfl, rfl, rfl⟩
    exact ⟨rfl, by simp [keepD]⟩
  · rintro cdv A outer s H E hr e vs ks ks' r ⟨a, b, c, many, ds, place, classes, ahead, v, hn, hc, hv, rfl, rfl, rfl⟩
    have am := am_of (P := P) (w := w) (K := K) (mg := mg) (base := base) (N := N_law_place_right) (qual := "_law_place_right") (st := top 87) (f := f) (cdv := cdv) (outer := outer) (H := H) (E := E) (by decide) hbl hr
    simp only [f_place_right] at hv
    obtain ⟨hlap, hend⟩ := oi hv
    have hlap : ∀ x ∈ ds, ∀ y ∈ ds, lapB many (.list ds) place classes ahead x y = some (.nx ()) := fun x hx y hy => isNx_unit (List.all_eq_true.mp (List.all_eq_true.mp hlap x hx) y hy)
    have hend := rtOf_some hend
    let n : Int := (ds.length : Nat)
    refine dss_for (ds := [.int 0, .int 1, .int 2]) (ρ1 := rPR (urnL a b c) many (.list ds) place classes ahead) (fun i ρ' => ρ' = rPR (urnP b (dN n (2 * i) (a, c))) many (.list ds) place classes ahead) (fun _ ρ' d => ρ'.set 6 (some (.dat d))) [6] (fun ρ' => ρ' = rPR (urnP b (dN n 6 (a, c))) many (.list ds) place classes ahead) (passes_of rfl) am.calm (OI.di (oi_rg1 am ox_int) rfl) rfl ?_ ?_ ?_ ?_
    · rintro i d ρ' hd rfl
      exact OG.dg (ρ := rPR (urnP b (dN n (2 * i) (a, c))) many (.list ds) place classes ahead) (un := some) (enc := fun t => (rPR (urnP b (dN n (2 * i) (a, c))) many (.list ds) place classes ahead).set 6 (some (.dat t))) (t := d) (og_name 6 am) rfl
    · rintro i d ρ' hd rfl
      have hi : i < 3 := (List.getElem?_eq_some_iff.mp hd).1
      have hN := dN_c (n := n) (p := (a, c)) (2 * i)
      have hN1 := dN_c (n := n) (p := (a, c)) (2 * i + 1)
      obtain ⟨x, hx, ex⟩ := atI_some (ds := ds) (takeV_in (a := (dN n (2 * i) (a, c)).1) (b := b) (c := (dN n (2 * i) (a, c)).2) hn.1).1 (takeV_in hn.1).2
      obtain ⟨y, hy, ey⟩ := atI_some (ds := ds) (takeV_in (a := (dN n (2 * i + 1) (a, c)).1) (b := b) (c := (dN n (2 * i + 1) (a, c)).2) hn.1).1 (takeV_in hn.1).2
      refine dss_forget 6 ?_
      refine dss_eq (ρ1 := rPR (urnP b (dN n (2 * i) (a, c))) many (.list ds) place classes ahead) ?_ rfl
      refine dss_asg (ρ1 := rPR (urnP b (dN n (2 * (i + 1)) (a, c))) many (.list ds) place classes ahead) (ρ2 := ((rPR (urnP b (dN n (2 * (i + 1)) (a, c))) many (.list ds) place classes ahead).set 7 (some (.dat x))).set 8 (some (.dat y))) (ts := [7, 8]) (dx_tup (ds := [x, y]) (da_cons (k := .dat x) (ρ1 := rPR (urnP b (dN n (2 * i + 1) (a, c))) many (.list ds) place classes ahead) ?_ (da_cons (k := .dat y) (ρ1 := rPR (urnP b (dN n (2 * (i + 1)) (a, c))) many (.list ds) place classes ahead) ?_ da_nil)) (hz := (by decide : 2 ≤ sizeLine))) (OG.dg (ρ := rPR (urnP b (dN n (2 * (i + 1)) (a, c))) many (.list ds) place classes ahead) (un := unP some some) (enc := fun t : PyData × PyData => ((rPR (urnP b (dN n (2 * (i + 1)) (a, c))) many (.list ds) place classes ahead).set 7 (some (.dat t.1))).set 8 (some (.dat t.2))) (t := (x, y)) (og_2 am (og_name 7 am) fun _ => og_name 8 am) rfl) ?_
      · exact dx_call (e := e) (ρ := rPR (urnP b (dN n (2 * i) (a, c))) many (.list ds) place classes ahead) (ρ1 := rPR (urnP b (dN n (2 * i) (a, c))) many (.list ds) place classes ahead) (as := [.sl 0, .pu (.dat (.list ds))]) (k := .dat x) (ks := [.ml (urnP b (dN n (2 * i) (a, c))), .dat (.list ds)]) (r := (rPR (urnP b (dN n (2 * i) (a, c))) many (.list ds) place classes ahead).set 0 none) (ks' := [.ml (urnP b (dN n (2 * i + 1) (a, c))), .dat (.list ds)]) g_of (am.room.mono (by decide)) (da_sl (ρ := rPR (urnP b (dN n (2 * i) (a, c))) many (.list ds) place classes ahead) (k := .ml (urnP b (dN n (2 * i) (a, c)))) 0 (da_cons (k := .dat (.list ds)) (ρ1 := rPR (urnP b (dN n (2 * i) (a, c))) many (.list ds) place classes ahead) (by exact OX.dx (ox_var (d := .list ds) 2) rfl) da_nil)) rfl ⟨(dN n (2 * i) (a, c)).1, b, (dN n (2 * i) (a, c)).2, ds, x, hn, ⟨by omega, by omega⟩, ex, rfl, by rw [takeU_dN], rfl⟩ rfl
      · exact dx_call (e := e) (ρ := rPR (urnP b (dN n (2 * i + 1) (a, c))) many (.list ds) place classes ahead) (ρ1 := rPR (urnP b (dN n (2 * i + 1) (a, c))) many (.list ds) place classes ahead) (as := [.sl 0, .pu (.dat (.list ds))]) (k := .dat y) (ks := [.ml (urnP b (dN n (2 * i + 1) (a, c))), .dat (.list ds)]) (r := (rPR (urnP b (dN n (2 * i + 1) (a, c))) many (.list ds) place classes ahead).set 0 none) (ks' := [.ml (urnP b (dN n (2 * (i + 1)) (a, c))), .dat (.list ds)]) g_of (am.room.mono (by decide)) (da_sl (ρ := rPR (urnP b (dN n (2 * i + 1) (a, c))) many (.list ds) place classes ahead) (k := .ml (urnP b (dN n (2 * i + 1) (a, c)))) 0 (da_cons (k := .dat (.list ds)) (ρ1 := rPR (urnP b (dN n (2 * i + 1) (a, c))) many (.list ds) place classes ahead) (by exact OX.dx (ox_var (d := .list ds) 2) rfl) da_nil)) rfl ⟨(dN n (2 * i + 1) (a, c)).1, b, (dN n (2 * i + 1) (a, c)).2, ds, y, hn, ⟨by omega, by omega⟩, ey, rfl, by rw [takeU_dN]; rfl, rfl⟩ rfl
      · exact dss_weak (lap_rest (ns := []) B LK am many (.list ds) place classes ahead x y _ (hlap x hx y hy)) (fun ρ' z => z) (fun _ _ z => z.elim) (fun _ z => z.elim) (fun _ z => z.elim) (fun _ _ _ z => z.elim)
    · rintro ρ' rfl
      rfl
    · rintro ρ' rfl
      exact dss_weak (end_rest (ns := []) B am many (.list ds) place classes ahead _ hend) (fun ρ' z => z.elim) (fun _ _ z => ⟨z.1, fin0 z.2⟩) (fun _ z => z.elim) (fun _ z => z.elim) (fun _ _ _ z => z.elim)
end
end Ov
set_option Elab.async false
set_option linter.all false
set_option maxRecDepth 100000
set_option maxHeartbeats 4000000
namespace Ov
open PySem PySem.Spec PyProof.Rows L2

abbrev N_law : List Str := ["script", "urn", "many", "every", "ahead", "rows", "place", "classes", "due", "sizes", "row", "k", "own"]
def lawBody : List Stmt := forBody ((defBody (top 88)).getD 4 (.Pass ⟨0, 0, 0, 0⟩))
/-- six draws lie between the two urns -/
def DrawOk (every : PyData) (a b c a2 b2 c2 : Int) : Prop := ∃ ds, every = .list ds ∧ (0 < (ds.length : Int) ∧ (ds.length : Int) < 1073741824) ∧ (0 ≤ c ∧ c < 900000) ∧ a2 = (dN (ds.length : Nat) 6 (a, c)).1 ∧ b2 = b ∧ c2 = (dN (ds.length : Nat) 6 (a, c)).2
section
variable {P : Program} {w : World} {K : PySem.W.Frag} {mg : Str → Option Value} {base : Heap} {C : Addr}
theorem hole_right {σ β τ : Type} {eN : σ → Rho} {eB : β → Rho} {G : τ → Rho → Prop} {t : τ} {f : Addr} {cdv : Value} {A : Around} {outer : List Env} {s : Shared} {H : Hp} {E : XK} {W : L2.WX} {e : En} {pn : List V} {a b c a2 b2 c2 : Int} {many every place classes ahead : PyData} {k0 k5 k8 k9 k10 k11 k12 : Option Kd} {mr : Option (Fl σ β τ)}
    (am : Am (cxF P w K mg base N_law "law" (top 88) f cdv A outer s H E) 9) (gPR : Fn P w K mg base "_law_place_right" ["urn", "many", "every", "place", "classes", "ahead"] 10 relPR) (hD : DrawOk every a b c a2 b2 c2)
    (hG : G t [k0, some (.ml (urnL a2 b2 c2)), some (.dat many), some (.dat every), some (.dat ahead), k5, some (.dat place), some (.dat classes), k8, k9, k10, k11, k12])
    (hr : OSs (cxF P w K mg base N_law "law" (top 88) f cdv A outer s H E) e ([0], pn) W [k0, some (.ml (urnL a2 b2 c2)), some (.dat many), some (.dat every), some (.dat ahead), k5, some (.dat place), some (.dat classes), k8, k9, k10, k11, k12] (lawBody.drop 4) eN eB G mr) :
    OSs (cxF P w K mg base N_law "law" (top 88) f cdv A outer s H E) e ([0], pn) W [k0, some (.ml (urnL a b c)), some (.dat many), some (.dat every), some (.dat ahead), k5, some (.dat place), some (.dat classes), k8, k9, k10, k11, k12] (lawBody.drop 3) eN eB G (Option.bind (Option.bind (f_place_right many every place classes ahead) pB) fun b => bif b then mr else some (Fl.rt (PyData.bool false) t)) := fun r z => by
  obtain ⟨x, hx, z⟩ := ob z
  obtain ⟨v, hv, hx⟩ := ob hx
  have h9 : v = .bool x := by
    cases v with
    | bool y => cases hx; rfl
    | _ => cases hx
  subst h9
  obtain ⟨ds, rfl, hn, hc, rfl, rfl, rfl⟩ := hD
  refine dss_ifR (ρ1 := [k0, some (.ml (urnP b2 (dN (ds.length : Nat) 6 (a, c)))), some (.dat many), some (.dat (.list ds)), some (.dat ahead), k5, some (.dat place), some (.dat classes), k8, k9, k10, k11, k12]) (b := !x) (dt_not (dt_val ?_)) (fun zb => ?_) (fun zb => ?_)
  · let R : Rho := [k0, some (.ml (urnL a b2 c)), some (.dat many), some (.dat (.list ds)), some (.dat ahead), k5, some (.dat place), some (.dat classes), k8, k9, k10, k11, k12]
    exact dx_call (e := e) (ρ := R) (ρ1 := R) (as := [.sl 1, .pu (.dat many), .pu (.dat (.list ds)), .pu (.dat place), .pu (.dat classes), .pu (.dat ahead)]) (ks := [.ml (urnL a b2 c), .dat many, .dat (.list ds), .dat place, .dat classes, .dat ahead]) (r := R.set 1 none) (k := .dat (.bool x)) (ks' := [.ml (urnP b2 (dN (ds.length : Nat) 6 (a, c))), .dat many, .dat (.list ds), .dat place, .dat classes, .dat ahead]) gPR (am.room.mono (by decide)) (da_sl (ρ := R) (k := .ml (urnL a b2 c)) 1 (da_cons (k := .dat many) (ρ1 := R) (by exact OX.dx (ox_var (d := many) 2) rfl) (da_cons (k := .dat (.list ds)) (ρ1 := R) (by exact OX.dx (ox_var (d := (.list ds)) 3) rfl) (da_cons (k := .dat place) (ρ1 := R) (by exact OX.dx (ox_var (d := place) 6) rfl) (da_cons (k := .dat classes) (ρ1 := R) (by exact OX.dx (ox_var (d := classes) 7) rfl) (da_cons (k := .dat ahead) (ρ1 := R) (by exact OX.dx (ox_var (d := ahead) 4) rfl) da_nil)))))) rfl ⟨a, b2, c, many, ds, place, classes, ahead, .bool x, hn, hc, hv, rfl, rfl, rfl⟩ rfl
  · cases x with
    | true => cases zb
    | false =>
      cases z
      exact dss_ret (OX.dx ox_bl rfl) ⟨rfl, hG⟩
  · cases x with
    | false => cases zb
    | true => exact hr r z

def lawB (v_many v_every v_ahead v_rows v_place : PyData) : Option (Fl (PyData × PyData) Unit Unit) := (Option.bind (Option.bind (some v_every) fun a1 => (Option.bind (some v_place) fun a2 => f__law_classes a1 a2)) fun v_classes => (Option.bind (Option.bind (Option.bind (some v_place) fun a5 => Option.bind (Option.bind (some (PyData.int 0)) fun a3 => (Option.map (fun a4 => PyData.tuple [a3, a4]) (some v_many))) fun b6 => pIn a5 b6) fun a11 => bif a11 then (Option.bind (some v_many) f_count_lots) else (Option.bind (Option.bind (some v_many) fun a8 => Option.bind (some (PyData.int 1)) fun b9 => pSub a8 b9) f_count_lots)) fun v_due => (Option.bind (Option.bind (Option.map (!·) (Option.bind (Option.bind (some v_classes) pLen) fun a12 => Option.bind (some v_due) fun b13 => pEq a12 b13)) fun a17 => bif a17 then some true else (Option.map (!·) (Option.bind (Option.bind (Option.map PyData.list (Option.bind (Option.bind (some v_classes) pIt) (compF some (fun (t14 : PyData) => (some true)) (fun (t14 : PyData) => (Option.bind (some t14) pLen))))) pSum) fun a15 => Option.bind (Option.bind (some v_every) pLen) fun b16 => pEq a15 b16))) fun a18 => bif a18 then seqF (σ1 := Empty) (Option.map (fun v => Fl.rt v ()) (some (PyData.bool false))) (fun s => s.elim) else (Option.bind (Option.bind (f_place_right v_many v_every v_place v_classes v_ahead) pB) fun b => bif b then (Option.bind (Option.bind (some v_ahead) fun a19 => Option.bind (Option.bind (some v_classes) pLen) fun b20 => pAdd a19 b20) fun v_ahead => (Option.bind (Option.bind (some v_rows) fun a22 => Option.bind (Option.map PyData.list (Option.bind (Option.bind (some v_classes) pIt) (compF some (fun (t21 : PyData) => (some true)) (fun (t21 : PyData) => (Option.bind (some t21) pLen))))) fun b23 => pAdd a22 b23) fun v_rows => (some (Fl.nx (v_ahead, v_rows))))) else some (Fl.rt (PyData.bool false) ())))))
theorem law_rest (B : Fns90 P w K mg base) (gPR : Fn P w K mg base "_law_place_right" ["urn", "many", "every", "place", "classes", "ahead"] 10 relPR) {a b c a2 b2 c2 : Int} {ns : List Int} {f : Addr} {cdv : Value} {A : Around} {outer : List Env} {s : Shared} {H : Hp} {E : XK} {W : L2.WX} {e : En} {pn : List V} (am : Am (cxF P w K mg base N_law "law" (top 88) f cdv A outer s H E) 9) (v_many v_every v_ahead v_rows v_place : PyData) (hD : DrawOk v_every a b c a2 b2 c2) : OSs (cxF P w K mg base N_law "law" (top 88) f cdv A outer s H E) e ([0], pn) W [some (.scr ns), some (.ml (urnL a b c)), some (.dat v_many), some (.dat v_every), some (.dat v_ahead), some (.dat v_rows), some (.dat v_place), none, none, none, none, none, none] lawBody (fun (t : PyData × PyData) => [some (.scr ns), some (.ml (urnL a2 b2 c2)), some (.dat v_many), some (.dat v_every), some (.dat t.1), some (.dat t.2), none, none, none, none, none, none, none]) e0 (fun _ ρ => ρ[0]? = some (some (.scr ns))) (lawB v_many v_every v_ahead v_rows v_place) := by
  unfold lawB
  exact (oss_let am 7 (ox_call2 am B.g__law_classes (by decide) (ox_var 3) (ox_var 6)) (fun v_classes => (oss_let am 8 (ox_if (ot_in am (ox_var 6) (ox_tup2 ox_int (ox_var 2))) (ox_call1 am B.g_count_lots (by decide) (ox_var 2)) (ox_call1 am B.g_count_lots (by decide) (ox_sub (ox_var 2) ox_int))) (fun v_due => (oss_ifR (ot_w (ow_or (ot_ne am (ox_len am (ox_var 7)) (ox_var 8)) (ow_or1 (ot_ne am (ox_sum am (ox_fz (om_lc (own := [("own", 12)]) am (fun (t14 : PyData) => [some (.scr ns), some (.ml (urnL a b c)), some (.dat v_many), some (.dat v_every), some (.dat v_ahead), some (.dat v_rows), some (.dat v_place), some (.dat v_classes), some (.dat v_due), none, none, none, some (.dat t14)]) [12] (oi_x am (ox_var 7)) (blkOk_by (by rfl)) (fun s H C cl fp am => (og_name 12 am)) (fun s H C cl fp t14 am => ots_nil) (fun s H C cl fp t14 am => (ox_len am (ox_var 12)))))) (ox_len am (ox_var 3)))))) (oss_ret ox_bl rfl) (hole_right am gPR hD rfl (oss_let am 4 (ox_add (ox_var 4) (ox_len am (ox_var 7))) (fun v_ahead => (oss_let am 5 (ox_add (ox_var 5) (ox_fz (om_lc (own := [("own", 12)]) am (fun (t21 : PyData) => [some (.scr ns), some (.ml (urnL a2 b2 c2)), some (.dat v_many), some (.dat v_every), some (.dat v_ahead), some (.dat v_rows), some (.dat v_place), some (.dat v_classes), some (.dat v_due), none, none, none, some (.dat t21)]) [12] (oi_x am (ox_var 7)) (blkOk_by (by rfl)) (fun s H C cl fp am => (og_name 12 am)) (fun s H C cl fp t21 am => ots_nil) (fun s H C cl fp t21 am => (ox_len am (ox_var 12)))))) (fun v_rows => (oss_nil [6, 7, 8])))))))))))
def lawE (v_many v_every v_ahead v_rows : PyData) : Option (Fl (Unit) Unit Unit) := (Option.bind (Option.bind (Option.map (!·) (Option.bind (Option.bind (Option.bind (some v_many) fun a1 => Option.bind (some (PyData.int 1)) fun b2 => pAdd a1 b2) f_count_lots) fun a4 => Option.bind (some v_ahead) fun b5 => pEq a4 b5)) fun a20 => bif a20 then some true else (Option.map (!·) (Option.bind (some v_ahead) fun a18 => Option.bind (Option.bind (Option.bind (some (PyData.int 2)) fun a7 => Option.bind (Option.bind (some v_many) f_count_lots) fun b8 => pMul a7 b8) fun a16 => Option.bind (Option.bind (Option.bind (some v_many) fun a9 => Option.bind (some (PyData.int 1)) fun b10 => pSub a9 b10) fun a14 => Option.bind (Option.bind (Option.bind (some v_many) fun a11 => Option.bind (some (PyData.int 1)) fun b12 => pSub a11 b12) f_count_lots) fun b15 => pMul a14 b15) fun b17 => pAdd a16 b17) fun b19 => pEq a18 b19))) fun a21 => bif a21 then seqF (σ1 := Empty) (Option.map (fun v => Fl.rt v ()) (some (PyData.bool false))) (fun s => s.elim) else (Option.bind (Option.bind (Option.bind (some v_ahead) fun a22 => pRg (PyData.int 0) a22) (compF some (fun (t23 : PyData) => (some true)) (fun (t23 : PyData) => (Option.bind (Option.bind (Option.bind (some v_many) fun a24 => Option.bind (some (PyData.int 1)) fun b25 => pAdd a24 b25) fun a30 => (Option.bind (Option.bind (Option.bind (some v_many) fun a26 => Option.bind (some (PyData.int 1)) fun b27 => pAdd a26 b27) fun a28 => (Option.bind (some t23) fun a29 => f_signature_at a28 a29)) fun a31 => f_lot_row a30 a31)) f_count_rows)))) fun v_sizes => (Option.map (fun v => Fl.rt v ()) (Option.bind (Option.bind (Option.map PyData.bool (Option.bind (Option.map PyData.list (Option.bind (some (PyData.list v_sizes)) pSort)) fun a39 => Option.bind (Option.map PyData.list (Option.bind (some v_rows) pSort)) fun b40 => pEq a39 b40)) pB) fun a41 => bif a41 then Option.map PyData.bool (Option.bind (Option.map PyData.bool (Option.bind (Option.bind (some (PyData.list v_sizes)) pSum) fun a37 => Option.bind (Option.bind (Option.bind (some v_many) fun a33 => Option.bind (some (PyData.int 1)) fun b34 => pAdd a33 b34) fun a35 => Option.bind (Option.bind (some v_every) pLen) fun b36 => pMul a35 b36) fun b38 => pEq a37 b38)) pB) else some (PyData.bool false)))))
theorem law_end (B : Fns90 P w K mg base) {a b c : Int} {ns : List Int} {f : Addr} {cdv : Value} {A : Around} {outer : List Env} {s : Shared} {H : Hp} {E : XK} {W : L2.WX} {e : En} {pn : List V} (am : Am (cxF P w K mg base N_law "law" (top 88) f cdv A outer s H E) 9) (v_many v_every v_ahead v_rows : PyData) : OSs (cxF P w K mg base N_law "law" (top 88) f cdv A outer s H E) e ([0], pn) W [some (.scr ns), some (.ml (urnL a b c)), some (.dat v_many), some (.dat v_every), some (.dat v_ahead), some (.dat v_rows), none, none, none, none, none, none, none] ((defBody (top 88)).drop 5) (fun (t : Unit) => [some (.scr ns), some (.ml (urnL a b c)), some (.dat v_many), some (.dat v_every), some (.dat v_ahead), some (.dat v_rows), none, none, none, none, none, none, none]) e0 (fun _ ρ => ρ[0]? = some (some (.scr ns))) (lawE v_many v_every v_ahead v_rows) := by
  unfold lawE
  exact (oss_ifR (ot_w (ow_or (ot_ne am (ox_call1 am B.g_count_lots (by decide) (ox_add (ox_var 2) ox_int)) (ox_var 4)) (ow_or1 (ot_ne am (ox_var 4) (ox_add (ox_mul ox_int (ox_call1 am B.g_count_lots (by decide) (ox_var 2))) (ox_mul (ox_sub (ox_var 2) ox_int) (ox_call1 am B.g_count_lots (by decide) (ox_sub (ox_var 2) ox_int)))))))) (oss_ret ox_bl rfl) (oss_lc (own := [("k", 11)]) am 9 (fun (t23 : PyData) => [some (.scr ns), some (.ml (urnL a b c)), some (.dat v_many), some (.dat v_every), some (.dat v_ahead), some (.dat v_rows), none, none, none, none, none, some (.dat t23), none]) [11] (oi_rg1 am (ox_var 4)) (blkOk_by (by rfl)) (fun s H C cl fp am => (og_name 11 am)) (fun s H C cl fp t23 am => ots_nil) (fun s H C cl fp t23 am => (ox_call1 am B.g_count_rows (by decide) (ox_call2 am B.g_lot_row (by decide) (ox_add (ox_var 2) ox_int) (ox_call2 am B.g_signature_at (by decide) (ox_add (ox_var 2) ox_int) (ox_var 11))))) (fun v_sizes => (oss_fz 9 (oss_ret (ox_and (ox_eq am (ox_fz (om_sort am (ox_var 9))) (ox_fz (om_sort am (ox_var 5)))) (ox_one (ox_eq am (ox_sum am (ox_var 9)) (ox_mul (ox_add (ox_var 2) ox_int) (ox_len am (ox_var 3)))))) rfl)))))
def everyM (v_many : PyData) : Option (List PyData) := (Option.bind (Option.bind (Option.bind (some v_many) f__law_every) pIt) (compF some (fun (t2 : PyData) => (some true)) (fun (t2 : PyData) => (Option.bind (Option.map PyData.list (Option.bind (Option.bind (some t2) pIt) (compF some (fun (t3 : PyData) => (some true)) (fun (t3 : PyData) => (Option.bind (some t3) fun a4 => Option.bind (some (PyData.int 1)) fun b5 => pAdd a4 b5))))) pTup))))
theorem every_oss {σ β τ : Type} {eN : σ → Rho} {eB : β → Rho} {G : τ → Rho → Prop} {mr : List PyData → Option (Fl σ β τ)} (B : Fns90 P w K mg base) {a b c : Int} {ns : List Int} {f : Addr} {cdv : Value} {A : Around} {outer : List Env} {s : Shared} {H : Hp} {E : XK} {W : L2.WX} {e : En} {pn : List V} (am : Am (cxF P w K mg base N_law "law" (top 88) f cdv A outer s H E) 9) (v_many : PyData) (h2 : ∀ ds, OSs (cxF P w K mg base N_law "law" (top 88) f cdv A outer s H E) e ([0], pn) W [some (.scr ns), some (.ml (urnL a b c)), some (.dat v_many), some (.ml ds), none, none, none, none, none, none, none, none, none] ((defBody (top 88)).drop 3) eN eB G (mr ds)) : OSs (cxF P w K mg base N_law "law" (top 88) f cdv A outer s H E) e ([0], pn) W [some (.scr ns), some (.ml (urnL a b c)), some (.dat v_many), none, none, none, none, none, none, none, none, none, none] ((defBody (top 88)).drop 2) eN eB G (Option.bind (everyM v_many) mr) := by
  unfold everyM
  exact (oss_lc (own := [("row", 10)]) am 3 (fun (t2 : PyData) => [some (.scr ns), some (.ml (urnL a b c)), some (.dat v_many), none, none, none, none, none, none, none, some (.dat t2), none, none]) [10] (oi_x am (ox_call1 am B.g__law_every (by decide) (ox_var 2))) (blkOk_by (by rfl)) (fun s H C cl fp am => (og_name 10 am)) (fun s H C cl fp t2 am => ots_nil) (fun s H C cl fp t2 am => (ox_tuple am (ox_fz (om_lc (own := [("own", 12)]) am (fun (t3 : PyData) => [some (.scr ns), some (.ml (urnL a b c)), some (.dat v_many), none, none, none, none, none, none, none, some (.dat t2), none, some (.dat t3)]) [12] (oi_x am (ox_var 10)) (blkOk_by (by rfl)) (fun s H C cl fp am => (og_name 12 am)) (fun s H C cl fp t3 am => ots_nil) (fun s H C cl fp t3 am => (ox_add (ox_var 12) ox_int)))))) h2)
end
end Ov
set_option Elab.async false
set_option linter.all false
set_option maxRecDepth 100000
set_option maxHeartbeats 4000000
namespace Ov
open PySem PySem.Spec PyProof.Rows L2
/-! ### the law: what it computes -/
def nxOf {α β τ : Type} [Inhabited α] : Option (Fl α β τ) → α
  | some (.nx s) => s
  | _ => default
theorem nx_of {α : Type} [Inhabited α] {m : Option (Fl α Unit Unit)} (h : isNx m = true) : m = some (.nx (nxOf m)) := by
  cases m with
  | none => cases h
  | some r => cases r <;> first | rfl | cases h
instance : Inhabited PyData := ⟨.none⟩
def stL (many : Int) (ds : List PyData) : Nat → PyData × PyData
  | 0 => (.int 0, .list [])
  | i + 1 => nxOf (lawB (.int many) (.list ds) (stL many ds i).1 (stL many ds i).2 (.int (i : Nat)))
def isTrueF : Option (Fl Unit Unit Unit) → Bool
  | some (.rt (.bool true) _) => true
  | _ => false
theorem isTrueF_some {m : Option (Fl Unit Unit Unit)} (h : isTrueF m = true) : m = some (.rt (.bool true) ()) := by
  unfold isTrueF at h
  split at h
  · rfl
  · cases h
/-- the whole law for so many people, ds all rows -/
def okWith (many : Nat) (ds : List PyData) : Bool :=
  (0 < ds.length && ds.length < 1000) && (List.range (many + 1)).all (fun i => isNx (lawB (.int (many : Nat)) (.list ds) (stL many ds i).1 (stL many ds i).2 (.int (i : Nat)))) && isTrueF (lawE (.int (many : Nat)) (.list ds) (stL many ds (many + 1)).1 (stL many ds (many + 1)).2)
def okL (many : Nat) : Bool :=
  match everyM (.int (many : Nat)) with
  | some ds => okWith many ds
  | none => false
theorem okL_of {many : Nat} (h : okL many = true) : ∃ ds, everyM (.int (many : Nat)) = some ds ∧ okWith many ds = true := by
  unfold okL at h
  split at h
  · exact ⟨_, ‹_›, h⟩
  · cases h
theorem dN_add {n : Int} {p : Int × Int} {j : Nat} : ∀ k : Nat, dN n (k + j) p = dN n k (dN n j p)
  | 0 => by rw [Nat.zero_add]; rfl
  | k + 1 => by
    rw [Nat.succ_add]
    simp only [dN]
    rw [dN_add k]
theorem pRg_up (m : Nat) (h : m < 1000 := by omega) : pRg (.int 0) (.int ((m : Nat) + 1)) = some ((rng 0 (m + 1)).map .int) := by
  have e1 : (((m : Nat) : Int) + 1 - 0).toNat = m + 1 := by omega
  simp only [pRg]
  rw [if_pos (by omega), e1]
theorem pAdd_int {i j : Int} : pAdd (.int i) (.int j) = some (.int (i + j)) := rfl
def relLaw : Rel := fun ks ks' r => ∃ ns : List Int, ns.length ≤ 63 ∧ ks = [.scr ns] ∧ ks' = [.scr ns] ∧ r = .ret (.dat (.bool true))
section
variable {P : Program} {w : World} {K : PySem.W.Frag} {mg : Str → Option Value} {base : Heap} {C f : Addr} {fd : FuncData}
abbrev rLw (ns : List Int) (u : List PyData) (many : Int) (every : PyData) (st : PyData × PyData) : Rho := [some (.scr ns), some (.ml u), some (.dat (.int many)), some (.dat every), some (.dat st.1), some (.dat st.2), none, none, none, none, none, none, none]
theorem ok_law (ok : ∀ m : Nat, 0 < m → m < 5 → okL m = true) (B : Fns90 P w K mg base) (g_box : Fn P w K mg base "_law_box" ["script", "k"] 2 (relBx 34062795)) (g_cells : Fn P w K mg base "_law_cells" ["script", "many"] 2 relCl) (g_take : Fn P w K mg base "_law_take" ["urn", "below"] 2 relTk)
    (gPR : Fn P w K mg base "_law_place_right" ["urn", "many", "every", "place", "classes", "ahead"] 10 relPR) (F : Fun K "law" "law" (top 88) f fd) (hbl : ∀ x ∈ blts, mg x = none) : FnOk P w K mg base (L2.CX P w) 11 f fd ["script"] (spG K relLaw) := by
  refine ok_of (k := 10) (N := N_law) F ⟨rfl, rfl, rfl, by decide +kernel, rfl, by decide +kernel, by decide +kernel⟩ ?_ ?_
  · rintro ks ks' r ⟨ns, _, rfl, rfl, rfl⟩
    exact ⟨rfl, by simp [keepD]⟩
  · rintro cdv A outer s H E hr e vs ks ks' r ⟨ns, h63, rfl, rfl, rfl⟩
    have am := am_of (P := P) (w := w) (K := K) (mg := mg) (base := base) (N := N_law) (qual := "law") (st := top 88) (f := f) (cdv := cdv) (outer := outer) (H := H) (E := E) (by decide) hbl hr
    refine dss_set 1 (ρ1 := rho0 N_law [.scr ns]) (k := .ml (boxU (cellsZ ns) 0 34062795)) (dx_call (ρ1 := rho0 N_law [.scr ns]) (as := [.pu (.dat (.list [.int (cellsZ ns)])), .pu (.dat (.int 0))]) (ks := [.dat (.list [.int (cellsZ ns)]), .dat (.int 0)]) (r := rho0 N_law [.scr ns]) (ks' := [.dat (.list [.int (cellsZ ns)]), .dat (.int 0)]) g_box (am.room.mono (by decide)) (da_cons (k := .dat (.list [.int (cellsZ ns)])) (ρ1 := rho0 N_law [.scr ns]) ?_ (da_cons (k := .dat (.int 0)) (by exact OX.dx (ox_int (i := 0)) rfl) da_nil)) rfl ⟨_, rfl, rfl, rfl⟩ rfl) ?_ am.nod (hi := by simp [rho0])
    · exact dx_call (e := e) (ρ := rho0 N_law [.scr ns]) (ρ1 := rho0 N_law [.scr ns]) (as := [.sl 0, .pu (.dat (.int 1))]) (ks := [.scr ns, .dat (.int 1)]) (r := (rho0 N_law [.scr ns]).set 0 none) (ks' := [.scr ns, .dat (.int 1)]) g_cells (am.room.mono (by decide)) (da_sl (k := .scr ns) (ρ := rho0 N_law [.scr ns]) 0 (da_cons (k := .dat (.int 1)) (by exact OX.dx (ox_int (i := 1)) rfl) da_nil)) rfl ⟨ns, h63, rfl, rfl, rfl⟩ rfl
    generalize hz : cellsZ ns = z
    obtain ⟨a, b, hu⟩ : ∃ a b, boxU z 0 34062795 = urnL a b 0 := ⟨_, _, rfl⟩
    rw [hu]
    have hd := takeV_in (a := a) (b := b) (c := 0) (n := 4) (by decide)
    obtain ⟨m, em⟩ : ∃ m : Nat, 1 + takeV a b 0 4 = (m : Nat) := ⟨(1 + takeV a b 0 4).toNat, by omega⟩
    obtain ⟨ds, hev, hok⟩ := okL_of (ok m (by omega) (by omega))
    unfold okWith at hok
    simp only [Bool.and_eq_true, decide_eq_true_eq, List.all_eq_true, List.mem_range] at hok
    obtain ⟨⟨⟨hl0, hl1⟩, hst⟩, hend⟩ := hok
    have hend := isTrueF_some hend
    have hst : ∀ i : Nat, i < m + 1 → lawB (.int (m : Nat)) (.list ds) (stL m ds i).1 (stL m ds i).2 (.int (i : Nat)) = some (.nx (stL m ds (i + 1))) := fun i hi => nx_of (hst i hi)
    let n : Int := (ds.length : Nat)
    let u0 : Int × Int := (dA a 4, dC a 0)
    have hu0 : 0 ≤ u0.2 ∧ u0.2 ≤ 1 := by
      have := dC_le (a := a) (c := 0)
      exact ⟨this.1, this.2⟩
    let R0 : Rho := [some (.scr ns), some (.ml (urnL a b 0)), none, none, none, none, none, none, none, none, none, none, none]
    refine dss_set 2 (ρ := R0) (k := .dat (.int (m : Nat))) (ρ1 := [some (.scr ns), some (.ml (urnP b u0)), none, none, none, none, none, none, none, none, none, none, none]) ?_ ?_ am.nod (hi := by simp)
    · rw [← em]
      exact dx_add (i := 1) (j := takeV a b 0 4) (ρ1 := R0) (by exact OX.dx (ox_int (i := 1)) rfl) (dx_call (e := e) (ρ := R0) (ρ1 := R0) (as := [.sl 1, .pu (.dat (.int 4))]) (ks := [.ml (urnL a b 0), .dat (.int 4)]) (r := R0.set 1 none) (k := .dat (.int (takeV a b 0 4))) (ks' := [.ml (urnP b u0), .dat (.int 4)]) g_take (am.room.mono (by decide)) (da_sl (ρ := R0) (k := .ml (urnL a b 0)) 1 (da_cons (k := .dat (.int 4)) (ρ1 := R0) (by exact OX.dx (ox_int (i := 4)) rfl) da_nil)) rfl ⟨a, b, 0, 4, by decide, by decide, rfl, by rw [takeU_eq], rfl⟩ rfl)
    refine dss_weak (P' := post (fun (_ : Unit) => []) e0 (fun (_ : Unit) ρ => ρ[0]? = some (some (.scr ns))) (.rt (.bool true) ())) ?_ (fun ρ' z => z.elim) (fun _ _ z => ⟨z.1, fin0 z.2⟩) (fun _ z => z.elim) (fun _ z => z.elim) (fun _ _ _ z => z.elim)
    open Classical in
    refine every_oss (mr := fun ds' => if ds' = ds then some (.rt (.bool true) ()) else none) B am (.int (m : Nat)) (fun ds' r' z => ?_) _ (by rw [hev]; exact if_pos rfl)
    obtain ⟨ed, z⟩ := oi z
    have ez := Option.some.inj z
    subst ez
    rw [ed]
    refine dss_fz 3 (ds := ds) ?_
    let R3 : Rho := [some (.scr ns), some (.ml (urnP b u0)), some (.dat (.int (m : Nat))), some (.dat (.list ds)), none, none, none, none, none, none, none, none, none]
    refine dss_par 4 5 (ρ := R3) (ρ1 := R3) (k1 := .dat (.int 0)) (k2' := .ml []) (da_cons (ρ1 := R3) (by exact OX.dx (ox_int (i := 0)) rfl) (da_cons (ρ1 := R3) (by exact OM.dx om_lst0 rfl) da_nil)) ?_ am.nod am.calm (hi2 := by simp [R3]) (hj2 := by simp [R3])
    refine dss_fz 5 (ds := []) ?_
    refine dss_for (ds := (rng 0 (m + 1)).map .int) (ρ1 := rLw ns (urnP b u0) m (.list ds) (stL m ds 0)) (fun i ρ' => ρ' = rLw ns (urnP b (dN n (6 * i) u0)) m (.list ds) (stL m ds i)) (fun _ ρ' d => ρ'.set 6 (some (.dat d))) [6] (fun ρ' => ρ' = rLw ns (urnP b (dN n (6 * (m + 1)) u0)) m (.list ds) (stL m ds (m + 1))) (passes_of rfl) am.calm (OI.di (oi_rg1 am (ox_add (ox_var (d := .int (m : Nat)) 2) (ox_int (i := 1)))) ?_) rfl ?_ ?_ ?_ ?_
    · rw [Option.bind_some, Option.bind_some, pAdd_int, Option.bind_some]
      exact pRg_up m
    · rintro i d ρ' hd rfl
      exact OG.dg (ρ := rLw ns (urnP b (dN n (6 * i) u0)) m (.list ds) (stL m ds i)) (un := some) (enc := fun t => (rLw ns (urnP b (dN n (6 * i) u0)) m (.list ds) (stL m ds i)).set 6 (some (.dat t))) (t := d) (og_name 6 am) rfl
    · rintro i d ρ' hd rfl
      have hi : i < m + 1 := by
        have h1 := (List.getElem?_eq_some_iff.mp hd).1
        rw [List.length_map, rng_len] at h1
        exact h1
      have ed : d = .int (i : Nat) := by
        rw [List.getElem?_map, rng_get hi] at hd
        have h1 := Option.some.inj hd
        rw [← h1, Int.zero_add]
      subst ed
      have hN := dN_c (n := n) (p := u0) (6 * i)
      have hD : DrawOk (.list ds) (dN n (6 * i) u0).1 b (dN n (6 * i) u0).2 (dN n (6 * (i + 1)) u0).1 b (dN n (6 * (i + 1)) u0).2 := by
        have e6 : dN n (6 * (i + 1)) u0 = dN n 6 (dN n (6 * i) u0) := by
          rw [← dN_add 6]
          exact congrArg (fun k => dN n k u0) (by omega)
        rw [e6]
        exact ⟨ds, rfl, ⟨by omega, by omega⟩, ⟨by omega, by omega⟩, rfl, rfl, rfl⟩
      exact dss_weak (law_rest B gPR am (.int (m : Nat)) (.list ds) (stL m ds i).1 (stL m ds i).2 (.int (i : Nat)) hD _ (hst i hi)) (fun ρ' z => z) (fun _ _ z => z.elim) (fun _ z => z.elim) (fun _ z => z.elim) (fun _ _ _ z => z.elim)
    · rintro ρ' h
      rw [List.length_map, rng_len] at h
      exact h
    · rintro ρ' rfl
      exact dss_weak (law_end B am (.int (m : Nat)) (.list ds) (stL m ds (m + 1)).1 (stL m ds (m + 1)).2 _ hend) (fun ρ' z => z.elim) (fun _ _ z => z) (fun _ z => z.elim) (fun _ z => z.elim) (fun _ _ _ z => z.elim)
end
end Ov
set_option Elab.async false
set_option linter.all false
set_option maxRecDepth 100000
set_option maxHeartbeats 4000000
namespace Ov
open PySem PySem.Spec PyProof.Rows L2

def lapH (v_many v_every v_place v_classes v_ahead v_row v_one v_home : PyData) (vL : OP) (vI : Option Bool) (vM : OP) (vE : Option Bool) : Option (Fl Unit Unit Unit) := (Option.bind (Option.map PyData.list (Option.bind (Option.bind (some v_one) fun a15 => Option.map (a15 :: ·) (Option.bind vL fun a14 => Option.map (a14 :: ·) (Option.bind (Option.bind (some v_one) f_count_rows) fun a13 => Option.map (a13 :: ·) (Option.bind (Option.bind (some v_one) fun a2 => (Option.bind (some (PyData.int 1)) fun a3 => f_run_list a2 a3)) fun a12 => Option.map (a12 :: ·) (Option.bind (Option.bind (Option.bind (some v_one) f_runs) fun a5 => Option.bind (some (PyData.int 0)) fun b6 => pIx a5 b6) fun a11 => Option.map (a11 :: ·) (Option.bind (Option.bind (Option.bind (some v_one) f_signature) fun a8 => Option.bind (some (PyData.int 0)) fun b9 => pIx a8 b9) fun a10 => Option.map (a10 :: ·) (some []))))))) fun a16 => if List.length a16 ≤ 1000 then some a16 else none)) fun v_got => (Option.bind (Option.map (!·) (Option.bind (Option.bind (some v_got) fun a37 => (Option.bind (Option.map PyData.list (Option.bind (Option.bind (Option.bind (Option.bind (Option.bind (some v_row) fun a => Option.bind (some none) fun i => Option.bind (Option.map some (Option.bind (some v_place) pInt)) fun j => pSl a i j) fun a18 => Option.bind (Option.map (fun a17 => PyData.tuple [a17]) (some (PyData.int 1))) fun b19 => pAdd a18 b19) fun a20 => Option.bind (Option.bind (some v_row) fun a => Option.bind (Option.map some (Option.bind (some v_place) pInt)) fun i => Option.bind (some none) fun j => pSl a i j) fun b21 => pAdd a20 b21) fun a35 => Option.map (a35 :: ·) (Option.bind (Option.map PyData.bool vI) fun a34 => Option.map (a34 :: ·) (Option.bind (Option.bind (some v_home) pLen) fun a33 => Option.map (a33 :: ·) (Option.bind (Option.map PyData.list (Option.bind (Option.bind (Option.bind (some v_many) fun a22 => Option.bind (some (PyData.int 1)) fun b23 => pAdd a22 b23) fun a24 => pRg (PyData.int 0) a24) (compF some (fun (t25 : PyData) => (some true)) (fun (t25 : PyData) => (Option.bind (some t25) fun a26 => (Option.map (fun a27 => PyData.tuple [a26, a27]) (some t25))))))) fun a32 => Option.map (a32 :: ·) (Option.bind (Option.bind (some v_place) fun a28 => (Option.map (fun a29 => PyData.tuple [a28, a29]) (some v_place))) fun a31 => Option.map (a31 :: ·) (Option.bind (some v_place) fun a30 => Option.map (a30 :: ·) (some []))))))) fun a36 => if List.length a36 ≤ 1000 then some a36 else none)) fun a38 => (f__law_same 6) a37 a38)) pB)) fun a39 => bif a39 then seqF (σ1 := Empty) (Option.map (fun v => Fl.rt v ()) (some (PyData.bool false))) (fun s => s.elim) else (Option.bind (Option.bind (some v_one) f_all_rows) fun v_members => (Option.bind (Option.map (!·) (Option.bind (Option.bind (Option.map PyData.list (Option.bind (Option.map PyData.list (Option.bind (Option.map PyData.list (Option.bind (Option.bind (some v_members) pIt) (compF some (fun (t41 : PyData) => (some true)) (fun (t41 : PyData) => (Option.bind (some t41) fun a42 => (Option.bind (some (PyData.int 1)) fun a43 => f_without a42 a43)))))) pSort)) fun a47 => Option.map (fun b => [a47, b]) (Option.map PyData.list (Option.bind (Option.bind (some v_members) pIt) (compF some (fun (t44 : PyData) => (some true)) (fun (t44 : PyData) => (Option.bind (some v_one) fun a45 => (Option.bind (some t44) fun a46 => f_number_of a45 a46)))))))) fun a50 => (Option.bind (Option.map PyData.list (Option.bind (Option.map PyData.list (Option.bind (some v_home) pSort)) fun a49 => Option.map (fun b => [a49, b]) (Option.map PyData.list (Option.bind (Option.bind (some v_home) pLen) fun a48 => pRg (PyData.int 0) a48)))) fun a51 => (f__law_same 6) a50 a51)) pB)) fun a52 => bif a52 then seqF (σ1 := Empty) (Option.map (fun v => Fl.rt v ()) (some (PyData.bool false))) (fun s => s.elim) else (Option.bind (Option.bind (Option.bind (Option.bind (some v_many) fun a53 => Option.bind (some (PyData.int 1)) fun b54 => pAdd a53 b54) fun a55 => pRg (PyData.int 0) a55) (compF some (fun (t56 : PyData) => (some true)) (fun (t56 : PyData) => (Option.bind (Option.bind (Option.map PyData.bool (Option.bind (some t56) fun a57 => Option.bind (some v_place) fun b58 => pEq a57 b58)) pToI) fun a59 => (Option.map (fun a60 => PyData.tuple [a59, a60]) (some (PyData.int 1))))))) fun v_chances => (Option.bind (Option.map (!·) (Option.bind (Option.bind (Option.map PyData.list (Option.bind (Option.bind (Option.bind (some v_one) fun a61 => (Option.bind (some (PyData.int 1)) fun a62 => f_chances_of a61 a62)) fun a73 => Option.map (a73 :: ·) (Option.bind (Option.bind (some v_one) fun a63 => (Option.bind (some (PyData.int 1)) fun a64 => f_places_of a63 a64)) fun a72 => Option.map (a72 :: ·) (Option.bind (Option.bind (some v_one) fun a65 => (Option.bind (some (PyData.int 1)) fun a66 => f_expected_place a65 a66)) fun a71 => Option.map (a71 :: ·) (Option.bind (Option.map PyData.bool (Option.bind (some (PyData.int 1)) fun a68 => Option.bind (Option.bind (some v_one) f_free_people) fun b69 => pIn a68 b69)) fun a70 => Option.map (a70 :: ·) (some []))))) fun a74 => if List.length a74 ≤ 1000 then some a74 else none)) fun a82 => (Option.bind (Option.map PyData.list (Option.bind (Option.bind (some (PyData.list v_chances)) fun a80 => Option.map (a80 :: ·) (Option.bind (Option.map PyData.list (Option.map (fun a => [a]) (some v_place))) fun a79 => Option.map (a79 :: ·) (Option.bind (Option.bind (some v_place) fun a75 => (Option.map (fun a76 => PyData.tuple [a75, a76]) (some (PyData.int 1)))) fun a78 => Option.map (a78 :: ·) (Option.bind (some (PyData.bool false)) fun a77 => Option.map (a77 :: ·) (some []))))) fun a81 => if List.length a81 ≤ 1000 then some a81 else none)) fun a83 => (f__law_same 6) a82 a83)) pB)) fun a84 => bif a84 then seqF (σ1 := Empty) (Option.map (fun v => Fl.rt v ()) (some (PyData.bool false))) (fun s => s.elim) else (Option.bind (Option.bind (Option.bind (some v_many) fun a85 => Option.bind (some (PyData.int 1)) fun b86 => pAdd a85 b86) fun a88 => (Option.bind (Option.bind (some v_one) f_signature) fun a89 => f_signature_number a88 a89)) fun v_number => (Option.bind (Option.bind (Option.map (!·) (Option.bind (some v_ahead) fun a => Option.bind (some v_number) fun b => Option.bind (Option.bind (some v_ahead) fun a90 => Option.bind (Option.bind (some v_classes) pLen) fun b91 => pAdd a90 b91) fun c => pCh pLe pLt a b c)) fun a99 => bif a99 then some true else (Option.map (!·) (Option.bind (Option.bind (Option.bind (Option.bind (some v_many) fun a92 => Option.bind (some (PyData.int 1)) fun b93 => pAdd a92 b93) fun a95 => (Option.bind (Option.bind (some v_one) f_signature) fun a96 => f_lot_row a95 a96)) fun a97 => (Option.bind (some v_one) fun a98 => f_leads a97 a98)) pB))) fun a100 => bif a100 then seqF (σ1 := Empty) (Option.map (fun v => Fl.rt v ()) (some (PyData.bool false))) (fun s => s.elim) else (Option.bind (lineM v_row v_place v_many v_home) fun b => bif b then (Option.bind (Option.bind (Option.bind (some v_place) fun a103 => Option.bind (Option.bind (some (PyData.int 0)) fun a101 => (Option.map (fun a102 => PyData.tuple [a101, a102]) (some v_many))) fun b104 => pIn a103 b104) fun a113 => bif a113 then (Option.bind (Option.map (!·) (Option.bind vM fun a105 => Option.bind (Option.map PyData.bool vI) fun b106 => pEq a105 b106)) fun a112 => bif a112 then some true else (Option.map (!·) (Option.bind (Option.bind (Option.bind (Option.bind (some v_one) f_signature) fun a => Option.bind (Option.map some (Option.bind (some (PyData.int 1)) pInt)) fun i => Option.bind (some none) fun j => pSl a i j) fun a110 => (Option.bind (Option.bind (Option.bind (some v_row) f_ranks) f_signature) fun a111 => (f__law_same 6) a110 a111)) pB))) else some false) fun a114 => bif a114 then seqF (σ1 := Empty) (Option.map (fun v => Fl.rt v ()) (some (PyData.bool false))) (fun s => s.elim) else (Option.bind (Option.bind (Option.bind vM pB) fun a115 => bif a115 then (Option.map (!·) vI) else some false) fun a116 => bif a116 then seqF (σ1 := Empty) (Option.map (fun v => Fl.rt v ()) (some (PyData.bool false))) (fun s => s.elim) else (Option.bind (Option.bind (Option.map (!·) vI) fun a117 => bif a117 then vE else some false) fun a118 => bif a118 then seqF (σ1 := Empty) (Option.map (fun v => Fl.rt v ()) (some (PyData.bool false))) (fun s => s.elim) else (some (Fl.nx ()))))) else some (Fl.rt (PyData.bool false) ()))))))))))
def homeM (v_many v_every v_place v_classes v_ahead v_row : PyData) : OP := (Option.bind (Option.map PyData.list (Option.bind (Option.bind (some v_classes) pIt) (compF some (fun (t1 : PyData) => (Option.bind (some v_row) fun a2 => Option.bind (some t1) fun b3 => pIn a2 b3)) (fun (t1 : PyData) => (some t1))))) fun a4 => Option.bind (some (PyData.int 0)) fun b5 => pIx a4 b5)
theorem lapB_eq (v_many v_every v_place v_classes v_ahead v_row v_other : PyData) : lapB v_many v_every v_place v_classes v_ahead v_row v_other = Option.bind (f_with_person v_row v_place (.int 1)) fun v_one => Option.bind (f_with_person v_other v_place (.int 1)) fun v_far => Option.bind (homeM v_many v_every v_place v_classes v_ahead v_row) fun v_home => lapH v_many v_every v_place v_classes v_ahead v_row v_one v_home (f_leads v_one v_far) (pIn v_other v_home) (f_leads v_row v_other) (Option.bind (f_bar v_one v_far) fun a => pEq a (.int 1)) := by
  kernel_rfl
def lawC (v_many v_every v_ahead v_rows v_place v_classes : PyData) (vP : OP) : Option (Fl (PyData × PyData) Unit Unit) := (Option.bind (Option.bind (Option.bind (some v_place) fun a3 => Option.bind (Option.bind (some (PyData.int 0)) fun a1 => (Option.map (fun a2 => PyData.tuple [a1, a2]) (some v_many))) fun b4 => pIn a3 b4) fun a9 => bif a9 then (Option.bind (some v_many) f_count_lots) else (Option.bind (Option.bind (some v_many) fun a6 => Option.bind (some (PyData.int 1)) fun b7 => pSub a6 b7) f_count_lots)) fun v_due => (Option.bind (Option.bind (Option.map (!·) (Option.bind (Option.bind (some v_classes) pLen) fun a10 => Option.bind (some v_due) fun b11 => pEq a10 b11)) fun a15 => bif a15 then some true else (Option.map (!·) (Option.bind (Option.bind (Option.map PyData.list (Option.bind (Option.bind (some v_classes) pIt) (compF some (fun (t12 : PyData) => (some true)) (fun (t12 : PyData) => (Option.bind (some t12) pLen))))) pSum) fun a13 => Option.bind (Option.bind (some v_every) pLen) fun b14 => pEq a13 b14))) fun a16 => bif a16 then seqF (σ1 := Empty) (Option.map (fun v => Fl.rt v ()) (some (PyData.bool false))) (fun s => s.elim) else (Option.bind (Option.bind vP pB) fun b => bif b then (Option.bind (Option.bind (some v_ahead) fun a17 => Option.bind (Option.bind (some v_classes) pLen) fun b18 => pAdd a17 b18) fun v_ahead => (Option.bind (Option.bind (some v_rows) fun a20 => Option.bind (Option.map PyData.list (Option.bind (Option.bind (some v_classes) pIt) (compF some (fun (t19 : PyData) => (some true)) (fun (t19 : PyData) => (Option.bind (some t19) pLen))))) fun b21 => pAdd a20 b21) fun v_rows => (some (Fl.nx (v_ahead, v_rows))))) else some (Fl.rt (PyData.bool false) ()))))
theorem lawB_eq (v_many v_every v_ahead v_rows v_place : PyData) : lawB v_many v_every v_ahead v_rows v_place = Option.bind (f__law_classes v_every v_place) fun v_classes => lawC v_many v_every v_ahead v_rows v_place v_classes (f_place_right v_many v_every v_place v_classes v_ahead) := by
  kernel_rfl
/-! ### a lap, decided by row -/
/-- the answers that a pair may give: in one lot with the shorter one; without it; whether the shorter one bars -/
def pairs3 (atEnd : Bool) : List (Bool × Bool × Bool) := if atEnd then [(true, true, false), (false, false, false)] else [(true, true, false), (true, false, false), (false, false, false)]
def bOf : OP → Option Bool
  | some (.bool b) => some b
  | _ => none
theorem bOf_eq {m : OP} {b : Bool} (h : bOf m = some b) : m = some (.bool b) := by
  unfold bOf at h
  split at h
  · cases h; rfl
  · cases h
def pairIn (one far row other home : PyData) (cs : List (Bool × Bool × Bool)) : Bool :=
  match bOf (f_leads one far), pIn other home, bOf (f_leads row other), Option.bind (f_bar one far) fun a => pEq a (.int 1) with
  | some x, some x', some y, some z => x == x' && cs.contains (x, y, z)
  | _, _, _, _ => false
def rowOk (many every place classes ahead : PyData) (atEnd : Bool) (row : PyData) (others : List PyData) : Bool :=
  match f_with_person row place (.int 1), homeM many every place classes ahead row with
  | some one, some home =>
    ((pairs3 atEnd).all fun c => isNx (lapH many every place classes ahead row one home (some (.bool c.1)) (some c.1) (some (.bool c.2.1)) (some c.2.2))) && others.all fun other => match f_with_person other place (.int 1) with
      | some far => pairIn one far row other home (pairs3 atEnd)
      | none => false
  | _, _ => false
theorem lap_of {many every place classes ahead row : PyData} {atEnd : Bool} {others : List PyData} (h : rowOk many every place classes ahead atEnd row others = true) : ∀ other ∈ others, isNx (lapB many every place classes ahead row other) = true := fun other ho => by
  unfold rowOk at h
  split at h
  · rename_i one home h1 h2
    simp only [Bool.and_eq_true, List.all_eq_true] at h
    obtain ⟨h3, h4⟩ := h
    have h5 := h4 other ho
    split at h5
    · rename_i far h6
      rw [lapB_eq, h1, Option.bind_some, h6, Option.bind_some, h2, Option.bind_some]
      unfold pairIn at h5
      split at h5
      · rename_i x x' y z g1 g2 g3 g4
        simp only [Bool.and_eq_true] at h5
        obtain ⟨h7, h8⟩ := h5
        have h7 : x = x' := eq_of_beq h7
        subst h7
        rw [bOf_eq g1, g2, bOf_eq g3, g4]
        exact h3 (x, y, z) (List.contains_iff_mem.mp h8)
      · cases h5
    · cases h5
  · cases h

end Ov
set_option Elab.async false
set_option linter.all false
set_option maxRecDepth 100000
set_option maxHeartbeats 0
namespace Ov
open PySem
theorem pr_of {many place classes ahead : PyData} {ds : List PyData} {atEnd : Bool} (h : (ds.all fun row => rowOk many (.list ds) place classes ahead atEnd row ds) = true) (he : rtOf (endB many (.list ds) place classes ahead) = some (.bool true)) : f_place_right many (.list ds) place classes ahead = some (.bool true) := by
  unfold f_place_right
  refine (if_pos ?_).trans he
  exact List.all_eq_true.mpr fun row hr => List.all_eq_true.mpr fun other ho => lap_of (List.all_eq_true.mp h row hr) other ho
theorem step_of {many every ahead rows place classes : PyData} {st : PyData × PyData} (h1 : f__law_classes every place = some classes) (h2 : f_place_right many every place classes ahead = some (.bool true)) (h3 : lawC many every ahead rows place classes (some (.bool true)) = some (.nx st)) : lawB many every ahead rows place = some (.nx st) := by
  rw [lawB_eq, h1, Option.bind_some, h2, h3]
def ev4 : List PyData := [.tuple [.int 2, .int 3, .int 4, .int 5], .tuple [.int 2, .int 3, .int 5, .int 4], .tuple [.int 2, .int 4, .int 3, .int 5], .tuple [.int 2, .int 4, .int 5, .int 3], .tuple [.int 2, .int 5, .int 3, .int 4], .tuple [.int 2, .int 5, .int 4, .int 3], .tuple [.int 3, .int 2, .int 4, .int 5], .tuple [.int 3, .int 2, .int 5, .int 4], .tuple [.int 3, .int 4, .int 2, .int 5], .tuple [.int 3, .int 4, .int 5, .int 2], .tuple [.int 3, .int 5, .int 2, .int 4], .tuple [.int 3, .int 5, .int 4, .int 2], .tuple [.int 4, .int 2, .int 3, .int 5], .tuple [.int 4, .int 2, .int 5, .int 3], .tuple [.int 4, .int 3, .int 2, .int 5], .tuple [.int 4, .int 3, .int 5, .int 2], .tuple [.int 4, .int 5, .int 2, .int 3], .tuple [.int 4, .int 5, .int 3, .int 2], .tuple [.int 5, .int 2, .int 3, .int 4], .tuple [.int 5, .int 2, .int 4, .int 3], .tuple [.int 5, .int 3, .int 2, .int 4], .tuple [.int 5, .int 3, .int 4, .int 2], .tuple [.int 5, .int 4, .int 2, .int 3], .tuple [.int 5, .int 4, .int 3, .int 2]]
theorem every4 : everyM (.int ((4 : Nat) : Int)) = some ev4 := by kernel_rfl
theorem st4_0 : stL ((4 : Nat) : Int) ev4 0 = (PyData.int 0, PyData.list []) := rfl
def cl4_0 : PyData := .list [.list [.tuple [.int 2, .int 3, .int 4, .int 5]], .list [.tuple [.int 2, .int 3, .int 5, .int 4]], .list [.tuple [.int 2, .int 4, .int 3, .int 5], .tuple [.int 2, .int 5, .int 3, .int 4]], .list [.tuple [.int 2, .int 4, .int 5, .int 3]], .list [.tuple [.int 2, .int 5, .int 4, .int 3]], .list [.tuple [.int 3, .int 2, .int 4, .int 5], .tuple [.int 4, .int 2, .int 3, .int 5], .tuple [.int 5, .int 2, .int 3, .int 4], .tuple [.int 3, .int 2, .int 5, .int 4]], .list [.tuple [.int 3, .int 4, .int 2, .int 5], .tuple [.int 3, .int 5, .int 2, .int 4]], .list [.tuple [.int 3, .int 4, .int 5, .int 2]], .list [.tuple [.int 3, .int 5, .int 4, .int 2]], .list [.tuple [.int 4, .int 2, .int 5, .int 3], .tuple [.int 5, .int 2, .int 4, .int 3]], .list [.tuple [.int 4, .int 3, .int 2, .int 5], .tuple [.int 5, .int 3, .int 2, .int 4], .tuple [.int 4, .int 5, .int 2, .int 3], .tuple [.int 5, .int 4, .int 2, .int 3]], .list [.tuple [.int 4, .int 3, .int 5, .int 2], .tuple [.int 5, .int 3, .int 4, .int 2]], .list [.tuple [.int 4, .int 5, .int 3, .int 2]], .list [.tuple [.int 5, .int 4, .int 3, .int 2]]]
theorem t4_0_0 : (((ev4.drop 0).take 8).all fun row => rowOk (.int 4) (.list ev4) (.int 0) cl4_0 (.int 0) true row ev4) = true := by decide +kernel
theorem t4_0_1 : (((ev4.drop 8).take 8).all fun row => rowOk (.int 4) (.list ev4) (.int 0) cl4_0 (.int 0) true row ev4) = true := by decide +kernel
theorem t4_0_2 : (((ev4.drop 16).take 8).all fun row => rowOk (.int 4) (.list ev4) (.int 0) cl4_0 (.int 0) true row ev4) = true := by decide +kernel
theorem t4_0 : (ev4.all fun row => rowOk (.int 4) (.list ev4) (.int 0) cl4_0 (.int 0) true row ev4) = true := by
  have e : ev4 = ((ev4.drop 0).take 8) ++ (((ev4.drop 8).take 8) ++ ((ev4.drop 16).take 8)) := rfl
  refine (congrArg (fun l => List.all l fun row => rowOk (.int 4) (.list ev4) (.int 0) cl4_0 (.int 0) true row ev4) e).trans ?_
  simp only [List.all_append, Bool.and_eq_true]
  exact ⟨t4_0_0, t4_0_1, t4_0_2⟩
theorem step4_0 : lawB (.int ((4 : Nat) : Int)) (.list ev4) (.int 0) (.list []) (.int ((0 : Nat) : Int)) = some (.nx (PyData.int 14, PyData.list [.int 1, .int 1, .int 2, .int 1, .int 1, .int 4, .int 2, .int 1, .int 1, .int 2, .int 4, .int 2, .int 1, .int 1])) :=
  step_of (classes := cl4_0) (by kernel_rfl) (pr_of t4_0 (by kernel_rfl)) (by kernel_rfl)
theorem st4_1 : stL ((4 : Nat) : Int) ev4 1 = (PyData.int 14, PyData.list [.int 1, .int 1, .int 2, .int 1, .int 1, .int 4, .int 2, .int 1, .int 1, .int 2, .int 4, .int 2, .int 1, .int 1]) := by
  show nxOf (lawB (.int ((4 : Nat) : Int)) (.list ev4) (stL ((4 : Nat) : Int) ev4 0).1 (stL ((4 : Nat) : Int) ev4 0).2 (.int ((0 : Nat) : Int))) = _
  rw [st4_0]
  exact congrArg nxOf step4_0
theorem nx4_0 : isNx (lawB (.int ((4 : Nat) : Int)) (.list ev4) (stL ((4 : Nat) : Int) ev4 0).1 (stL ((4 : Nat) : Int) ev4 0).2 (.int ((0 : Nat) : Int))) = true := by
  rw [st4_0]
  exact (congrArg isNx step4_0).trans rfl
def cl4_1 : PyData := .list [.list [.tuple [.int 2, .int 3, .int 4, .int 5], .tuple [.int 3, .int 2, .int 4, .int 5], .tuple [.int 4, .int 2, .int 3, .int 5], .tuple [.int 5, .int 2, .int 3, .int 4], .tuple [.int 2, .int 4, .int 3, .int 5], .tuple [.int 3, .int 2, .int 5, .int 4], .tuple [.int 2, .int 5, .int 3, .int 4], .tuple [.int 2, .int 3, .int 5, .int 4]], .list [.tuple [.int 2, .int 4, .int 5, .int 3], .tuple [.int 4, .int 2, .int 5, .int 3], .tuple [.int 5, .int 2, .int 4, .int 3], .tuple [.int 2, .int 5, .int 4, .int 3]], .list [.tuple [.int 3, .int 4, .int 2, .int 5], .tuple [.int 3, .int 5, .int 2, .int 4], .tuple [.int 4, .int 3, .int 2, .int 5], .tuple [.int 5, .int 3, .int 2, .int 4], .tuple [.int 4, .int 5, .int 2, .int 3], .tuple [.int 5, .int 4, .int 2, .int 3]], .list [.tuple [.int 3, .int 4, .int 5, .int 2], .tuple [.int 4, .int 3, .int 5, .int 2], .tuple [.int 5, .int 3, .int 4, .int 2], .tuple [.int 3, .int 5, .int 4, .int 2]], .list [.tuple [.int 4, .int 5, .int 3, .int 2], .tuple [.int 5, .int 4, .int 3, .int 2]]]
theorem t4_1_0 : (((ev4.drop 0).take 8).all fun row => rowOk (.int 4) (.list ev4) (.int 1) cl4_1 (.int 14) false row ev4) = true := by decide +kernel
theorem t4_1_1 : (((ev4.drop 8).take 8).all fun row => rowOk (.int 4) (.list ev4) (.int 1) cl4_1 (.int 14) false row ev4) = true := by decide +kernel
theorem t4_1_2 : (((ev4.drop 16).take 8).all fun row => rowOk (.int 4) (.list ev4) (.int 1) cl4_1 (.int 14) false row ev4) = true := by decide +kernel
theorem t4_1 : (ev4.all fun row => rowOk (.int 4) (.list ev4) (.int 1) cl4_1 (.int 14) false row ev4) = true := by
  have e : ev4 = ((ev4.drop 0).take 8) ++ (((ev4.drop 8).take 8) ++ ((ev4.drop 16).take 8)) := rfl
  refine (congrArg (fun l => List.all l fun row => rowOk (.int 4) (.list ev4) (.int 1) cl4_1 (.int 14) false row ev4) e).trans ?_
  simp only [List.all_append, Bool.and_eq_true]
  exact ⟨t4_1_0, t4_1_1, t4_1_2⟩
theorem step4_1 : lawB (.int ((4 : Nat) : Int)) (.list ev4) (.int 14) (.list [.int 1, .int 1, .int 2, .int 1, .int 1, .int 4, .int 2, .int 1, .int 1, .int 2, .int 4, .int 2, .int 1, .int 1]) (.int ((1 : Nat) : Int)) = some (.nx (PyData.int 19, PyData.list [.int 1, .int 1, .int 2, .int 1, .int 1, .int 4, .int 2, .int 1, .int 1, .int 2, .int 4, .int 2, .int 1, .int 1, .int 8, .int 4, .int 6, .int 4, .int 2])) :=
  step_of (classes := cl4_1) (by kernel_rfl) (pr_of t4_1 (by kernel_rfl)) (by kernel_rfl)
theorem st4_2 : stL ((4 : Nat) : Int) ev4 2 = (PyData.int 19, PyData.list [.int 1, .int 1, .int 2, .int 1, .int 1, .int 4, .int 2, .int 1, .int 1, .int 2, .int 4, .int 2, .int 1, .int 1, .int 8, .int 4, .int 6, .int 4, .int 2]) := by
  show nxOf (lawB (.int ((4 : Nat) : Int)) (.list ev4) (stL ((4 : Nat) : Int) ev4 1).1 (stL ((4 : Nat) : Int) ev4 1).2 (.int ((1 : Nat) : Int))) = _
  rw [st4_1]
  exact congrArg nxOf step4_1
theorem nx4_1 : isNx (lawB (.int ((4 : Nat) : Int)) (.list ev4) (stL ((4 : Nat) : Int) ev4 1).1 (stL ((4 : Nat) : Int) ev4 1).2 (.int ((1 : Nat) : Int))) = true := by
  rw [st4_1]
  exact (congrArg isNx step4_1).trans rfl
def cl4_2 : PyData := .list [.list [.tuple [.int 2, .int 3, .int 4, .int 5], .tuple [.int 2, .int 4, .int 3, .int 5], .tuple [.int 2, .int 5, .int 3, .int 4], .tuple [.int 2, .int 3, .int 5, .int 4]], .list [.tuple [.int 2, .int 4, .int 5, .int 3], .tuple [.int 2, .int 5, .int 4, .int 3]], .list [.tuple [.int 3, .int 2, .int 4, .int 5], .tuple [.int 4, .int 2, .int 3, .int 5], .tuple [.int 3, .int 4, .int 2, .int 5], .tuple [.int 5, .int 2, .int 3, .int 4], .tuple [.int 4, .int 3, .int 2, .int 5], .tuple [.int 3, .int 5, .int 2, .int 4], .tuple [.int 3, .int 2, .int 5, .int 4], .tuple [.int 5, .int 3, .int 2, .int 4], .tuple [.int 4, .int 5, .int 2, .int 3], .tuple [.int 5, .int 4, .int 2, .int 3], .tuple [.int 4, .int 2, .int 5, .int 3], .tuple [.int 5, .int 2, .int 4, .int 3]], .list [.tuple [.int 3, .int 4, .int 5, .int 2], .tuple [.int 3, .int 5, .int 4, .int 2]], .list [.tuple [.int 4, .int 3, .int 5, .int 2], .tuple [.int 5, .int 3, .int 4, .int 2], .tuple [.int 4, .int 5, .int 3, .int 2], .tuple [.int 5, .int 4, .int 3, .int 2]]]
theorem t4_2_0 : (((ev4.drop 0).take 8).all fun row => rowOk (.int 4) (.list ev4) (.int 2) cl4_2 (.int 19) false row ev4) = true := by decide +kernel
theorem t4_2_1 : (((ev4.drop 8).take 8).all fun row => rowOk (.int 4) (.list ev4) (.int 2) cl4_2 (.int 19) false row ev4) = true := by decide +kernel
theorem t4_2_2 : (((ev4.drop 16).take 8).all fun row => rowOk (.int 4) (.list ev4) (.int 2) cl4_2 (.int 19) false row ev4) = true := by decide +kernel
theorem t4_2 : (ev4.all fun row => rowOk (.int 4) (.list ev4) (.int 2) cl4_2 (.int 19) false row ev4) = true := by
  have e : ev4 = ((ev4.drop 0).take 8) ++ (((ev4.drop 8).take 8) ++ ((ev4.drop 16).take 8)) := rfl
  refine (congrArg (fun l => List.all l fun row => rowOk (.int 4) (.list ev4) (.int 2) cl4_2 (.int 19) false row ev4) e).trans ?_
  simp only [List.all_append, Bool.and_eq_true]
  exact ⟨t4_2_0, t4_2_1, t4_2_2⟩
theorem step4_2 : lawB (.int ((4 : Nat) : Int)) (.list ev4) (.int 19) (.list [.int 1, .int 1, .int 2, .int 1, .int 1, .int 4, .int 2, .int 1, .int 1, .int 2, .int 4, .int 2, .int 1, .int 1, .int 8, .int 4, .int 6, .int 4, .int 2]) (.int ((2 : Nat) : Int)) = some (.nx (PyData.int 24, PyData.list [.int 1, .int 1, .int 2, .int 1, .int 1, .int 4, .int 2, .int 1, .int 1, .int 2, .int 4, .int 2, .int 1, .int 1, .int 8, .int 4, .int 6, .int 4, .int 2, .int 4, .int 2, .int 12, .int 2, .int 4])) :=
  step_of (classes := cl4_2) (by kernel_rfl) (pr_of t4_2 (by kernel_rfl)) (by kernel_rfl)
theorem st4_3 : stL ((4 : Nat) : Int) ev4 3 = (PyData.int 24, PyData.list [.int 1, .int 1, .int 2, .int 1, .int 1, .int 4, .int 2, .int 1, .int 1, .int 2, .int 4, .int 2, .int 1, .int 1, .int 8, .int 4, .int 6, .int 4, .int 2, .int 4, .int 2, .int 12, .int 2, .int 4]) := by
  show nxOf (lawB (.int ((4 : Nat) : Int)) (.list ev4) (stL ((4 : Nat) : Int) ev4 2).1 (stL ((4 : Nat) : Int) ev4 2).2 (.int ((2 : Nat) : Int))) = _
  rw [st4_2]
  exact congrArg nxOf step4_2
theorem nx4_2 : isNx (lawB (.int ((4 : Nat) : Int)) (.list ev4) (stL ((4 : Nat) : Int) ev4 2).1 (stL ((4 : Nat) : Int) ev4 2).2 (.int ((2 : Nat) : Int))) = true := by
  rw [st4_2]
  exact (congrArg isNx step4_2).trans rfl
def cl4_3 : PyData := .list [.list [.tuple [.int 2, .int 3, .int 4, .int 5], .tuple [.int 2, .int 3, .int 5, .int 4]], .list [.tuple [.int 2, .int 4, .int 3, .int 5], .tuple [.int 2, .int 5, .int 3, .int 4], .tuple [.int 2, .int 4, .int 5, .int 3], .tuple [.int 2, .int 5, .int 4, .int 3]], .list [.tuple [.int 3, .int 2, .int 4, .int 5], .tuple [.int 4, .int 2, .int 3, .int 5], .tuple [.int 3, .int 2, .int 5, .int 4], .tuple [.int 5, .int 2, .int 3, .int 4], .tuple [.int 4, .int 2, .int 5, .int 3], .tuple [.int 5, .int 2, .int 4, .int 3]], .list [.tuple [.int 3, .int 4, .int 2, .int 5], .tuple [.int 3, .int 5, .int 2, .int 4], .tuple [.int 3, .int 4, .int 5, .int 2], .tuple [.int 3, .int 5, .int 4, .int 2]], .list [.tuple [.int 4, .int 3, .int 2, .int 5], .tuple [.int 5, .int 3, .int 2, .int 4], .tuple [.int 4, .int 5, .int 2, .int 3], .tuple [.int 4, .int 3, .int 5, .int 2], .tuple [.int 5, .int 4, .int 2, .int 3], .tuple [.int 5, .int 3, .int 4, .int 2], .tuple [.int 4, .int 5, .int 3, .int 2], .tuple [.int 5, .int 4, .int 3, .int 2]]]
theorem t4_3_0 : (((ev4.drop 0).take 8).all fun row => rowOk (.int 4) (.list ev4) (.int 3) cl4_3 (.int 24) false row ev4) = true := by decide +kernel
theorem t4_3_1 : (((ev4.drop 8).take 8).all fun row => rowOk (.int 4) (.list ev4) (.int 3) cl4_3 (.int 24) false row ev4) = true := by decide +kernel
theorem t4_3_2 : (((ev4.drop 16).take 8).all fun row => rowOk (.int 4) (.list ev4) (.int 3) cl4_3 (.int 24) false row ev4) = true := by decide +kernel
theorem t4_3 : (ev4.all fun row => rowOk (.int 4) (.list ev4) (.int 3) cl4_3 (.int 24) false row ev4) = true := by
  have e : ev4 = ((ev4.drop 0).take 8) ++ (((ev4.drop 8).take 8) ++ ((ev4.drop 16).take 8)) := rfl
  refine (congrArg (fun l => List.all l fun row => rowOk (.int 4) (.list ev4) (.int 3) cl4_3 (.int 24) false row ev4) e).trans ?_
  simp only [List.all_append, Bool.and_eq_true]
  exact ⟨t4_3_0, t4_3_1, t4_3_2⟩
theorem step4_3 : lawB (.int ((4 : Nat) : Int)) (.list ev4) (.int 24) (.list [.int 1, .int 1, .int 2, .int 1, .int 1, .int 4, .int 2, .int 1, .int 1, .int 2, .int 4, .int 2, .int 1, .int 1, .int 8, .int 4, .int 6, .int 4, .int 2, .int 4, .int 2, .int 12, .int 2, .int 4]) (.int ((3 : Nat) : Int)) = some (.nx (PyData.int 29, PyData.list [.int 1, .int 1, .int 2, .int 1, .int 1, .int 4, .int 2, .int 1, .int 1, .int 2, .int 4, .int 2, .int 1, .int 1, .int 8, .int 4, .int 6, .int 4, .int 2, .int 4, .int 2, .int 12, .int 2, .int 4, .int 2, .int 4, .int 6, .int 4, .int 8])) :=
  step_of (classes := cl4_3) (by kernel_rfl) (pr_of t4_3 (by kernel_rfl)) (by kernel_rfl)
theorem st4_4 : stL ((4 : Nat) : Int) ev4 4 = (PyData.int 29, PyData.list [.int 1, .int 1, .int 2, .int 1, .int 1, .int 4, .int 2, .int 1, .int 1, .int 2, .int 4, .int 2, .int 1, .int 1, .int 8, .int 4, .int 6, .int 4, .int 2, .int 4, .int 2, .int 12, .int 2, .int 4, .int 2, .int 4, .int 6, .int 4, .int 8]) := by
  show nxOf (lawB (.int ((4 : Nat) : Int)) (.list ev4) (stL ((4 : Nat) : Int) ev4 3).1 (stL ((4 : Nat) : Int) ev4 3).2 (.int ((3 : Nat) : Int))) = _
  rw [st4_3]
  exact congrArg nxOf step4_3
theorem nx4_3 : isNx (lawB (.int ((4 : Nat) : Int)) (.list ev4) (stL ((4 : Nat) : Int) ev4 3).1 (stL ((4 : Nat) : Int) ev4 3).2 (.int ((3 : Nat) : Int))) = true := by
  rw [st4_3]
  exact (congrArg isNx step4_3).trans rfl
def cl4_4 : PyData := .list [.list [.tuple [.int 2, .int 3, .int 4, .int 5]], .list [.tuple [.int 2, .int 3, .int 5, .int 4]], .list [.tuple [.int 2, .int 4, .int 3, .int 5], .tuple [.int 2, .int 5, .int 3, .int 4]], .list [.tuple [.int 2, .int 4, .int 5, .int 3]], .list [.tuple [.int 2, .int 5, .int 4, .int 3]], .list [.tuple [.int 3, .int 2, .int 4, .int 5], .tuple [.int 4, .int 2, .int 3, .int 5], .tuple [.int 5, .int 2, .int 3, .int 4], .tuple [.int 3, .int 2, .int 5, .int 4]], .list [.tuple [.int 3, .int 4, .int 2, .int 5], .tuple [.int 3, .int 5, .int 2, .int 4]], .list [.tuple [.int 3, .int 4, .int 5, .int 2]], .list [.tuple [.int 3, .int 5, .int 4, .int 2]], .list [.tuple [.int 4, .int 2, .int 5, .int 3], .tuple [.int 5, .int 2, .int 4, .int 3]], .list [.tuple [.int 4, .int 3, .int 2, .int 5], .tuple [.int 5, .int 3, .int 2, .int 4], .tuple [.int 4, .int 5, .int 2, .int 3], .tuple [.int 5, .int 4, .int 2, .int 3]], .list [.tuple [.int 4, .int 3, .int 5, .int 2], .tuple [.int 5, .int 3, .int 4, .int 2]], .list [.tuple [.int 4, .int 5, .int 3, .int 2]], .list [.tuple [.int 5, .int 4, .int 3, .int 2]]]
theorem t4_4_0 : (((ev4.drop 0).take 8).all fun row => rowOk (.int 4) (.list ev4) (.int 4) cl4_4 (.int 29) true row ev4) = true := by decide +kernel
theorem t4_4_1 : (((ev4.drop 8).take 8).all fun row => rowOk (.int 4) (.list ev4) (.int 4) cl4_4 (.int 29) true row ev4) = true := by decide +kernel
theorem t4_4_2 : (((ev4.drop 16).take 8).all fun row => rowOk (.int 4) (.list ev4) (.int 4) cl4_4 (.int 29) true row ev4) = true := by decide +kernel
theorem t4_4 : (ev4.all fun row => rowOk (.int 4) (.list ev4) (.int 4) cl4_4 (.int 29) true row ev4) = true := by
  have e : ev4 = ((ev4.drop 0).take 8) ++ (((ev4.drop 8).take 8) ++ ((ev4.drop 16).take 8)) := rfl
  refine (congrArg (fun l => List.all l fun row => rowOk (.int 4) (.list ev4) (.int 4) cl4_4 (.int 29) true row ev4) e).trans ?_
  simp only [List.all_append, Bool.and_eq_true]
  exact ⟨t4_4_0, t4_4_1, t4_4_2⟩
theorem step4_4 : lawB (.int ((4 : Nat) : Int)) (.list ev4) (.int 29) (.list [.int 1, .int 1, .int 2, .int 1, .int 1, .int 4, .int 2, .int 1, .int 1, .int 2, .int 4, .int 2, .int 1, .int 1, .int 8, .int 4, .int 6, .int 4, .int 2, .int 4, .int 2, .int 12, .int 2, .int 4, .int 2, .int 4, .int 6, .int 4, .int 8]) (.int ((4 : Nat) : Int)) = some (.nx (PyData.int 43, PyData.list [.int 1, .int 1, .int 2, .int 1, .int 1, .int 4, .int 2, .int 1, .int 1, .int 2, .int 4, .int 2, .int 1, .int 1, .int 8, .int 4, .int 6, .int 4, .int 2, .int 4, .int 2, .int 12, .int 2, .int 4, .int 2, .int 4, .int 6, .int 4, .int 8, .int 1, .int 1, .int 2, .int 1, .int 1, .int 4, .int 2, .int 1, .int 1, .int 2, .int 4, .int 2, .int 1, .int 1])) :=
  step_of (classes := cl4_4) (by kernel_rfl) (pr_of t4_4 (by kernel_rfl)) (by kernel_rfl)
theorem st4_5 : stL ((4 : Nat) : Int) ev4 5 = (PyData.int 43, PyData.list [.int 1, .int 1, .int 2, .int 1, .int 1, .int 4, .int 2, .int 1, .int 1, .int 2, .int 4, .int 2, .int 1, .int 1, .int 8, .int 4, .int 6, .int 4, .int 2, .int 4, .int 2, .int 12, .int 2, .int 4, .int 2, .int 4, .int 6, .int 4, .int 8, .int 1, .int 1, .int 2, .int 1, .int 1, .int 4, .int 2, .int 1, .int 1, .int 2, .int 4, .int 2, .int 1, .int 1]) := by
  show nxOf (lawB (.int ((4 : Nat) : Int)) (.list ev4) (stL ((4 : Nat) : Int) ev4 4).1 (stL ((4 : Nat) : Int) ev4 4).2 (.int ((4 : Nat) : Int))) = _
  rw [st4_4]
  exact congrArg nxOf step4_4
theorem nx4_4 : isNx (lawB (.int ((4 : Nat) : Int)) (.list ev4) (stL ((4 : Nat) : Int) ev4 4).1 (stL ((4 : Nat) : Int) ev4 4).2 (.int ((4 : Nat) : Int))) = true := by
  rw [st4_4]
  exact (congrArg isNx step4_4).trans rfl
theorem ok_4 : okL 4 = true := by
  unfold okL
  rw [every4]
  show okWith 4 ev4 = true
  unfold okWith
  rw [Bool.and_eq_true, Bool.and_eq_true]
  refine ⟨⟨by decide, List.all_eq_true.mpr fun i hi => ?_⟩, ?_⟩
  · have hi := List.mem_range.mp hi
    rcases i with _ | _ | _ | _ | _ | i
    · exact nx4_0
    · exact nx4_1
    · exact nx4_2
    · exact nx4_3
    · exact nx4_4
    · omega
  · show isTrueF (lawE (.int ((4 : Nat) : Int)) (.list ev4) (stL ((4 : Nat) : Int) ev4 5).1 (stL ((4 : Nat) : Int) ev4 5).2) = true
    rw [st4_5]
    decide +kernel
theorem ok_1 : okL 1 = true := by decide +kernel
theorem ok_2 : okL 2 = true := by decide +kernel
theorem ok_3 : okL 3 = true := by decide +kernel
theorem okAll : ∀ m : Nat, 0 < m → m < 5 → okL m = true := by
  intro m h1 h2
  rcases m with _ | _ | _ | _ | _ | m
  · omega
  · exact ok_1
  · exact ok_2
  · exact ok_3
  · exact ok_4
  · omega
end Ov
set_option Elab.async false
set_option linter.all false
set_option maxRecDepth 100000
set_option maxHeartbeats 8000000
namespace Ov
open PySem PySem.Spec PyProof.Rows L2
theorem sp_law {K : PySem.W.Frag} {H : Hp} {a : Addr} {ns : List Int} (hl : ns.length ≤ 63) (hS : SqL K H a (ns.map V.int)) : spG K relLaw [.ref a] H (fun v _ => v = .bl true) fun _ _ _ => False := by
  have h1 : SL K H H [(.scr ns, .ref a)] [] := SL.cons (f1 := []) (f2 := []) (by simp only [Ho]; exact ⟨a, rfl, trivial, hS⟩) .nil
  refine ⟨H, [.scr ns], [.scr ns], .ret (.dat (.bool true)), [], ⟨ns, hl, rfl, rfl, rfl⟩, rfl, rfl, h1, ⟨Same.refl _, fun b xs h => h, fun b o h => ?_, Same.refl _, fun b h => .inl h, [], h1, List.nodup_nil, fun b hb => nomatch hb⟩, fun v H' S' o => ?_⟩
  · have h : less H [] b = some o := h
    rw [less_out (by simp)] at h
    exact h
  · have h := o.dat
    simp only [Da] at h
    exact h
theorem all_mk {l : PySem.W.OpenLaw} {w : World} {K : PySem.W.Frag} {h : Heap} {mg : Str → Option Value} {fa : Addr} (X : K.In h) (G : h.Ns mainGlobals mg) (hfa : mg "law" = some (.ref fa))
    {tk_MOST : Tok}
    {tk_MOST_PEOPLE : Tok}
    {C_Drift : Addr}
    {C_Line : Addr}
    {f_place_of : Addr} {oc_place_of kV_place_of dc_place_of pm_place_of cd_place_of ct_place_of : Value} {od_place_of an_place_of : Option Addr} {sl_place_of : Array (Option Value)}
    {f_look_same : Addr} {oc_look_same kV_look_same dc_look_same pm_look_same cd_look_same ct_look_same : Value} {od_look_same an_look_same : Option Addr} {sl_look_same : Array (Option Value)}
    {f_ranks : Addr} {oc_ranks kV_ranks dc_ranks pm_ranks cd_ranks ct_ranks : Value} {od_ranks an_ranks : Option Addr} {sl_ranks : Array (Option Value)}
    {f_with_person : Addr} {oc_with_person kV_with_person dc_with_person pm_with_person cd_with_person ct_with_person : Value} {od_with_person an_with_person : Option Addr} {sl_with_person : Array (Option Value)}
    {f_without : Addr} {oc_without kV_without dc_without pm_without cd_without ct_without : Value} {od_without an_without : Option Addr} {sl_without : Array (Option Value)}
    {f_rest_row : Addr} {oc_rest_row kV_rest_row dc_rest_row pm_rest_row cd_rest_row ct_rest_row : Value} {od_rest_row an_rest_row : Option Addr} {sl_rest_row : Array (Option Value)}
    {f_code_of : Addr} {oc_code_of kV_code_of dc_code_of pm_code_of cd_code_of ct_code_of : Value} {od_code_of an_code_of : Option Addr} {sl_code_of : Array (Option Value)}
    {f_codes : Addr} {oc_codes kV_codes dc_codes pm_codes cd_codes ct_codes : Value} {od_codes an_codes : Option Addr} {sl_codes : Array (Option Value)}
    {f_row_with : Addr} {oc_row_with kV_row_with dc_row_with pm_row_with cd_row_with ct_row_with : Value} {od_row_with an_row_with : Option Addr} {sl_row_with : Array (Option Value)}
    {f_run_at : Addr} {oc_run_at kV_run_at dc_run_at pm_run_at cd_run_at ct_run_at : Value} {od_run_at an_run_at : Option Addr} {sl_run_at : Array (Option Value)}
    {f_next_runs : Addr} {oc_next_runs kV_next_runs dc_next_runs pm_next_runs cd_next_runs ct_next_runs : Value} {od_next_runs an_next_runs : Option Addr} {sl_next_runs : Array (Option Value)}
    {f_all_lists : Addr} {oc_all_lists kV_all_lists dc_all_lists pm_all_lists cd_all_lists ct_all_lists : Value} {od_all_lists an_all_lists : Option Addr} {sl_all_lists : Array (Option Value)}
    {f_runs : Addr} {oc_runs kV_runs dc_runs pm_runs cd_runs ct_runs : Value} {od_runs an_runs : Option Addr} {sl_runs : Array (Option Value)}
    {f_run_list : Addr} {oc_run_list kV_run_list dc_run_list pm_run_list cd_run_list ct_run_list : Value} {od_run_list an_run_list : Option Addr} {sl_run_list : Array (Option Value)}
    {f_free_people : Addr} {oc_free_people kV_free_people dc_free_people pm_free_people cd_free_people ct_free_people : Value} {od_free_people an_free_people : Option Addr} {sl_free_people : Array (Option Value)}
    {f_count_lots : Addr} {oc_count_lots kV_count_lots dc_count_lots pm_count_lots cd_count_lots ct_count_lots : Value} {od_count_lots an_count_lots : Option Addr} {sl_count_lots : Array (Option Value)}
    {f_single_runs : Addr} {oc_single_runs kV_single_runs dc_single_runs pm_single_runs cd_single_runs ct_single_runs : Value} {od_single_runs an_single_runs : Option Addr} {sl_single_runs : Array (Option Value)}
    {f_signature : Addr} {oc_signature kV_signature dc_signature pm_signature cd_signature ct_signature : Value} {od_signature an_signature : Option Addr} {sl_signature : Array (Option Value)}
    {f_run_counts : Addr} {oc_run_counts kV_run_counts dc_run_counts pm_run_counts cd_run_counts ct_run_counts : Value} {od_run_counts an_run_counts : Option Addr} {sl_run_counts : Array (Option Value)}
    {f_lot_row : Addr} {oc_lot_row kV_lot_row dc_lot_row pm_lot_row cd_lot_row ct_lot_row : Value} {od_lot_row an_lot_row : Option Addr} {sl_lot_row : Array (Option Value)}
    {f_left_after : Addr} {oc_left_after kV_left_after dc_left_after pm_left_after cd_left_after ct_left_after : Value} {od_left_after an_left_after : Option Addr} {sl_left_after : Array (Option Value)}
    {f_lots_after : Addr} {oc_lots_after kV_lots_after dc_lots_after pm_lots_after cd_lots_after ct_lots_after : Value} {od_lots_after an_lots_after : Option Addr} {sl_lots_after : Array (Option Value)}
    {f_signature_at : Addr} {oc_signature_at kV_signature_at dc_signature_at pm_signature_at cd_signature_at ct_signature_at : Value} {od_signature_at an_signature_at : Option Addr} {sl_signature_at : Array (Option Value)}
    {f_signature_number : Addr} {oc_signature_number kV_signature_number dc_signature_number pm_signature_number cd_signature_number ct_signature_number : Value} {od_signature_number an_signature_number : Option Addr} {sl_signature_number : Array (Option Value)}
    {f_gcd : Addr} {oc_gcd kV_gcd dc_gcd pm_gcd cd_gcd ct_gcd : Value} {od_gcd an_gcd : Option Addr} {sl_gcd : Array (Option Value)}
    {f_reduced : Addr} {oc_reduced kV_reduced dc_reduced pm_reduced cd_reduced ct_reduced : Value} {od_reduced an_reduced : Option Addr} {sl_reduced : Array (Option Value)}
    {f_are_lower : Addr} {oc_are_lower kV_are_lower dc_are_lower pm_are_lower cd_are_lower ct_are_lower : Value} {od_are_lower an_are_lower : Option Addr} {sl_are_lower : Array (Option Value)}
    {f_sees_at : Addr} {oc_sees_at kV_sees_at dc_sees_at pm_sees_at cd_sees_at ct_sees_at : Value} {od_sees_at an_sees_at : Option Addr} {sl_sees_at : Array (Option Value)}
    {f_sights : Addr} {oc_sights kV_sights dc_sights pm_sights cd_sights ct_sights : Value} {od_sights an_sights : Option Addr} {sl_sights : Array (Option Value)}
    {f_exchanges : Addr} {oc_exchanges kV_exchanges dc_exchanges pm_exchanges cd_exchanges ct_exchanges : Value} {od_exchanges an_exchanges : Option Addr} {sl_exchanges : Array (Option Value)}
    {f_bar_of : Addr} {oc_bar_of kV_bar_of dc_bar_of pm_bar_of cd_bar_of ct_bar_of : Value} {od_bar_of an_bar_of : Option Addr} {sl_bar_of : Array (Option Value)}
    {f_bar : Addr} {oc_bar kV_bar dc_bar pm_bar cd_bar ct_bar : Value} {od_bar an_bar : Option Addr} {sl_bar : Array (Option Value)}
    {f_leads : Addr} {oc_leads kV_leads dc_leads pm_leads cd_leads ct_leads : Value} {od_leads an_leads : Option Addr} {sl_leads : Array (Option Value)}
    {f_look_leads : Addr} {oc_look_leads kV_look_leads dc_look_leads pm_look_leads cd_look_leads ct_look_leads : Value} {od_look_leads an_look_leads : Option Addr} {sl_look_leads : Array (Option Value)}
    {f_count_rows : Addr} {oc_count_rows kV_count_rows dc_count_rows pm_count_rows cd_count_rows ct_count_rows : Value} {od_count_rows an_count_rows : Option Addr} {sl_count_rows : Array (Option Value)}
    {f_row_at : Addr} {oc_row_at kV_row_at dc_row_at pm_row_at cd_row_at ct_row_at : Value} {od_row_at an_row_at : Option Addr} {sl_row_at : Array (Option Value)}
    {f_number_of : Addr} {oc_number_of kV_number_of dc_number_of pm_number_of cd_number_of ct_number_of : Value} {od_number_of an_number_of : Option Addr} {sl_number_of : Array (Option Value)}
    {f_all_rows : Addr} {oc_all_rows kV_all_rows dc_all_rows pm_all_rows cd_all_rows ct_all_rows : Value} {od_all_rows an_all_rows : Option Addr} {sl_all_rows : Array (Option Value)}
    {f__law_look : Addr} {oc__law_look kV__law_look dc__law_look pm__law_look cd__law_look ct__law_look : Value} {od__law_look an__law_look : Option Addr} {sl__law_look : Array (Option Value)}
    {f__law_swaps : Addr} {oc__law_swaps kV__law_swaps dc__law_swaps pm__law_swaps cd__law_swaps ct__law_swaps : Value} {od__law_swaps an__law_swaps : Option Addr} {sl__law_swaps : Array (Option Value)}
    {f__law_swap : Addr} {oc__law_swap kV__law_swap dc__law_swap pm__law_swap cd__law_swap ct__law_swap : Value} {od__law_swap an__law_swap : Option Addr} {sl__law_swap : Array (Option Value)}
    {f__law_every : Addr} {oc__law_every kV__law_every dc__law_every pm__law_every cd__law_every ct__law_every : Value} {od__law_every an__law_every : Option Addr} {sl__law_every : Array (Option Value)}
    {f__law_classes : Addr} {oc__law_classes kV__law_classes dc__law_classes pm__law_classes cd__law_classes ct__law_classes : Value} {od__law_classes an__law_classes : Option Addr} {sl__law_classes : Array (Option Value)}
    {f_Line___init__ TT_Line___init__ TA_Line___init__ : Addr} {oc_Line___init__ kV_Line___init__ dc_Line___init__ pm_Line___init__ cd_Line___init__ ct_Line___init__ oT_Line___init__ : Value} {od_Line___init__ an_Line___init__ odT_Line___init__ : Option Addr} {sl_Line___init__ slT_Line___init__ : Array (Option Value)} {nT_Line___init__ : Nat}
    {f_Line_row : Addr} {oc_Line_row kV_Line_row dc_Line_row pm_Line_row cd_Line_row ct_Line_row : Value} {od_Line_row an_Line_row : Option Addr} {sl_Line_row : Array (Option Value)}
    {f_Line_count : Addr} {oc_Line_count kV_Line_count dc_Line_count pm_Line_count cd_Line_count ct_Line_count : Value} {od_Line_count an_Line_count : Option Addr} {sl_Line_count : Array (Option Value)}
    {f_Line___len__ : Addr} {oc_Line___len__ kV_Line___len__ dc_Line___len__ pm_Line___len__ cd_Line___len__ ct_Line___len__ : Value} {od_Line___len__ an_Line___len__ : Option Addr} {sl_Line___len__ : Array (Option Value)}
    {f_Line_come : Addr} {oc_Line_come kV_Line_come dc_Line_come pm_Line_come cd_Line_come ct_Line_come : Value} {od_Line_come an_Line_come : Option Addr} {sl_Line_come : Array (Option Value)}
    {f_Line_leave : Addr} {oc_Line_leave kV_Line_leave dc_Line_leave pm_Line_leave cd_Line_leave ct_Line_leave : Value} {od_Line_leave an_Line_leave : Option Addr} {sl_Line_leave : Array (Option Value)}
    {f_Drift_run_of : Addr} {oc_Drift_run_of kV_Drift_run_of dc_Drift_run_of pm_Drift_run_of cd_Drift_run_of ct_Drift_run_of : Value} {od_Drift_run_of an_Drift_run_of : Option Addr} {sl_Drift_run_of : Array (Option Value)}
    {f_Drift_put_down_to : Addr} {oc_Drift_put_down_to kV_Drift_put_down_to dc_Drift_put_down_to pm_Drift_put_down_to cd_Drift_put_down_to ct_Drift_put_down_to : Value} {od_Drift_put_down_to an_Drift_put_down_to : Option Addr} {sl_Drift_put_down_to : Array (Option Value)}
    {f_Drift___init__ : Addr} {oc_Drift___init__ kV_Drift___init__ dc_Drift___init__ pm_Drift___init__ cd_Drift___init__ ct_Drift___init__ : Value} {od_Drift___init__ an_Drift___init__ : Option Addr} {sl_Drift___init__ : Array (Option Value)}
    {f_place_ways : Addr} {oc_place_ways kV_place_ways dc_place_ways pm_place_ways cd_place_ways ct_place_ways : Value} {od_place_ways an_place_ways : Option Addr} {sl_place_ways : Array (Option Value)}
    {f_chances_of : Addr} {oc_chances_of kV_chances_of dc_chances_of pm_chances_of cd_chances_of ct_chances_of : Value} {od_chances_of an_chances_of : Option Addr} {sl_chances_of : Array (Option Value)}
    {f_places_of : Addr} {oc_places_of kV_places_of dc_places_of pm_places_of cd_places_of ct_places_of : Value} {od_places_of an_places_of : Option Addr} {sl_places_of : Array (Option Value)}
    {f_expected_place : Addr} {oc_expected_place kV_expected_place dc_expected_place pm_expected_place cd_expected_place ct_expected_place : Value} {od_expected_place an_expected_place : Option Addr} {sl_expected_place : Array (Option Value)}
    {f__law_take : Addr} {oc__law_take kV__law_take dc__law_take pm__law_take cd__law_take ct__law_take : Value} {od__law_take an__law_take : Option Addr} {sl__law_take : Array (Option Value)}
    {f__law_of : Addr} {oc__law_of kV__law_of dc__law_of pm__law_of cd__law_of ct__law_of : Value} {od__law_of an__law_of : Option Addr} {sl__law_of : Array (Option Value)}
    {f__law_box : Addr} {oc__law_box kV__law_box dc__law_box pm__law_box cd__law_box ct__law_box : Value} {od__law_box an__law_box : Option Addr} {sl__law_box : Array (Option Value)}
    {f__law_cells : Addr} {oc__law_cells kV__law_cells dc__law_cells pm__law_cells cd__law_cells ct__law_cells : Value} {od__law_cells an__law_cells : Option Addr} {sl__law_cells : Array (Option Value)}
    {f__law_same : Addr} {oc__law_same kV__law_same dc__law_same pm__law_same cd__law_same ct__law_same : Value} {od__law_same an__law_same : Option Addr} {sl__law_same : Array (Option Value)}
    {f__law_place_right : Addr} {oc__law_place_right kV__law_place_right dc__law_place_right pm__law_place_right cd__law_place_right ct__law_place_right : Value} {od__law_place_right an__law_place_right : Option Addr} {sl__law_place_right : Array (Option Value)}
    {f_law : Addr} {oc_law kV_law dc_law pm_law cd_law ct_law : Value} {od_law an_law : Option Addr} {sl_law : Array (Option Value)}
    (q_MOST : PySem.W.nsIn K mainGlobals "MOST" = some (some (.int 300 tk_MOST)))
    (q_MOST_PEOPLE : PySem.W.nsIn K mainGlobals "MOST_PEOPLE" = some (some (.int 16 tk_MOST_PEOPLE)))
    (z_len : PySem.W.nsIn K mainGlobals "len" = some none)
    (z_range : PySem.W.nsIn K mainGlobals "range" = some none)
    (z_sorted : PySem.W.nsIn K mainGlobals "sorted" = some none)
    (z_list : PySem.W.nsIn K mainGlobals "list" = some none)
    (z_tuple : PySem.W.nsIn K mainGlobals "tuple" = some none)
    (z_zip : PySem.W.nsIn K mainGlobals "zip" = some none)
    (z_enumerate : PySem.W.nsIn K mainGlobals "enumerate" = some none)
    (z_min : PySem.W.nsIn K mainGlobals "min" = some none)
    (z_max : PySem.W.nsIn K mainGlobals "max" = some none)
    (z_sum : PySem.W.nsIn K mainGlobals "sum" = some none)
    (z_all : PySem.W.nsIn K mainGlobals "all" = some none)
    (z_any : PySem.W.nsIn K mainGlobals "any" = some none)
    (z_abs : PySem.W.nsIn K mainGlobals "abs" = some none)
    (z_int : PySem.W.nsIn K mainGlobals "int" = some none)
    (z_isinstance : PySem.W.nsIn K mainGlobals "isinstance" = some none)
    (z_set : PySem.W.nsIn K mainGlobals "set" = some none)
    (z_str : PySem.W.nsIn K mainGlobals "str" = some none)
    (z_dict : PySem.W.nsIn K mainGlobals "dict" = some none)
    (z_bool : PySem.W.nsIn K mainGlobals "bool" = some none)
    (z_frozenset : PySem.W.nsIn K mainGlobals "frozenset" = some none)
    (z_reversed : PySem.W.nsIn K mainGlobals "reversed" = some none)
    (aC_Drift : PySem.W.nsIn K mainGlobals "Drift" = some (some (.ref C_Drift)))
    (pg_Drift : PySem.W.plainGet K C_Drift Str.empty = true)
    (hd_Drift : PySem.W.hasDictIn K C_Drift = true)
    (po_Drift : PySem.W.plainOver K C_Drift = true)
    (sa_Drift : PySem.W.findIn K (.ref C_Drift) "__setattr__" = some (some (.builtin "object.__setattr__")))
    (mk_Drift : PySem.W.makesIn K C_Drift = true)
    (kc_Drift : PySem.W.keepIn K (.ref C_Drift) = true)
    (n0_Drift : PySem.W.findIn K (.ref C_Drift) "own_people" = some none)
    (n1_Drift : PySem.W.findIn K (.ref C_Drift) "own_runs" = some none)
    (n2_Drift : PySem.W.findIn K (.ref C_Drift) "own_ways" = some none)
    (n3_Drift : PySem.W.findIn K (.ref C_Drift) "own_total" = some none)
    (n4_Drift : PySem.W.findIn K (.ref C_Drift) "own_left" = some none)
    (aC_Line : PySem.W.nsIn K mainGlobals "Line" = some (some (.ref C_Line)))
    (pg_Line : PySem.W.plainGet K C_Line Str.empty = true)
    (hd_Line : PySem.W.hasDictIn K C_Line = true)
    (po_Line : PySem.W.plainOver K C_Line = true)
    (sa_Line : PySem.W.findIn K (.ref C_Line) "__setattr__" = some (some (.builtin "object.__setattr__")))
    (mk_Line : PySem.W.makesIn K C_Line = true)
    (kc_Line : PySem.W.keepIn K (.ref C_Line) = true)
    (n0_Line : PySem.W.findIn K (.ref C_Line) "own_rows" = some none)
    (n1_Line : PySem.W.findIn K (.ref C_Line) "own_log" = some none)
    (a_place_of : PySem.W.nsIn K mainGlobals "place_of" = some (some (.ref f_place_of)))
    (l_place_of : K.lookup f_place_of = some ⟨oc_place_of, od_place_of, .func (PySem.W.fnOf "place_of" "place_of" (defArgs (top 12)) (defBody (top 12)) (defScope (top 12)) .none kV_place_of dc_place_of pm_place_of an_place_of cd_place_of ct_place_of), sl_place_of⟩)
    (c_place_of : PySem.W.codeIn K cd_place_of "place_of" = true)
    (k_place_of : PySem.W.keepIn K (.ref f_place_of) = true)
    (a_look_same : PySem.W.nsIn K mainGlobals "look_same" = some (some (.ref f_look_same)))
    (l_look_same : K.lookup f_look_same = some ⟨oc_look_same, od_look_same, .func (PySem.W.fnOf "look_same" "look_same" (defArgs (top 13)) (defBody (top 13)) (defScope (top 13)) .none kV_look_same dc_look_same pm_look_same an_look_same cd_look_same ct_look_same), sl_look_same⟩)
    (c_look_same : PySem.W.codeIn K cd_look_same "look_same" = true)
    (k_look_same : PySem.W.keepIn K (.ref f_look_same) = true)
    (a_ranks : PySem.W.nsIn K mainGlobals "ranks" = some (some (.ref f_ranks)))
    (l_ranks : K.lookup f_ranks = some ⟨oc_ranks, od_ranks, .func (PySem.W.fnOf "ranks" "ranks" (defArgs (top 14)) (defBody (top 14)) (defScope (top 14)) .none kV_ranks dc_ranks pm_ranks an_ranks cd_ranks ct_ranks), sl_ranks⟩)
    (c_ranks : PySem.W.codeIn K cd_ranks "ranks" = true)
    (k_ranks : PySem.W.keepIn K (.ref f_ranks) = true)
    (a_with_person : PySem.W.nsIn K mainGlobals "with_person" = some (some (.ref f_with_person)))
    (l_with_person : K.lookup f_with_person = some ⟨oc_with_person, od_with_person, .func (PySem.W.fnOf "with_person" "with_person" (defArgs (top 16)) (defBody (top 16)) (defScope (top 16)) .none kV_with_person dc_with_person pm_with_person an_with_person cd_with_person ct_with_person), sl_with_person⟩)
    (c_with_person : PySem.W.codeIn K cd_with_person "with_person" = true)
    (k_with_person : PySem.W.keepIn K (.ref f_with_person) = true)
    (a_without : PySem.W.nsIn K mainGlobals "without" = some (some (.ref f_without)))
    (l_without : K.lookup f_without = some ⟨oc_without, od_without, .func (PySem.W.fnOf "without" "without" (defArgs (top 17)) (defBody (top 17)) (defScope (top 17)) .none kV_without dc_without pm_without an_without cd_without ct_without), sl_without⟩)
    (c_without : PySem.W.codeIn K cd_without "without" = true)
    (k_without : PySem.W.keepIn K (.ref f_without) = true)
    (a_rest_row : PySem.W.nsIn K mainGlobals "rest_row" = some (some (.ref f_rest_row)))
    (l_rest_row : K.lookup f_rest_row = some ⟨oc_rest_row, od_rest_row, .func (PySem.W.fnOf "rest_row" "rest_row" (defArgs (top 19)) (defBody (top 19)) (defScope (top 19)) .none kV_rest_row dc_rest_row pm_rest_row an_rest_row cd_rest_row ct_rest_row), sl_rest_row⟩)
    (c_rest_row : PySem.W.codeIn K cd_rest_row "rest_row" = true)
    (k_rest_row : PySem.W.keepIn K (.ref f_rest_row) = true)
    (a_code_of : PySem.W.nsIn K mainGlobals "code_of" = some (some (.ref f_code_of)))
    (l_code_of : K.lookup f_code_of = some ⟨oc_code_of, od_code_of, .func (PySem.W.fnOf "code_of" "code_of" (defArgs (top 20)) (defBody (top 20)) (defScope (top 20)) .none kV_code_of dc_code_of pm_code_of an_code_of cd_code_of ct_code_of), sl_code_of⟩)
    (c_code_of : PySem.W.codeIn K cd_code_of "code_of" = true)
    (k_code_of : PySem.W.keepIn K (.ref f_code_of) = true)
    (a_codes : PySem.W.nsIn K mainGlobals "codes" = some (some (.ref f_codes)))
    (l_codes : K.lookup f_codes = some ⟨oc_codes, od_codes, .func (PySem.W.fnOf "codes" "codes" (defArgs (top 21)) (defBody (top 21)) (defScope (top 21)) .none kV_codes dc_codes pm_codes an_codes cd_codes ct_codes), sl_codes⟩)
    (c_codes : PySem.W.codeIn K cd_codes "codes" = true)
    (k_codes : PySem.W.keepIn K (.ref f_codes) = true)
    (a_codes_codes : PySem.W.nsIn K mainGlobals "codes_codes" = some (some (.ref f_codes)))
    (a_row_with : PySem.W.nsIn K mainGlobals "row_with" = some (some (.ref f_row_with)))
    (l_row_with : K.lookup f_row_with = some ⟨oc_row_with, od_row_with, .func (PySem.W.fnOf "row_with" "row_with" (defArgs (top 23)) (defBody (top 23)) (defScope (top 23)) .none kV_row_with dc_row_with pm_row_with an_row_with cd_row_with ct_row_with), sl_row_with⟩)
    (c_row_with : PySem.W.codeIn K cd_row_with "row_with" = true)
    (k_row_with : PySem.W.keepIn K (.ref f_row_with) = true)
    (a_run_at : PySem.W.nsIn K mainGlobals "run_at" = some (some (.ref f_run_at)))
    (l_run_at : K.lookup f_run_at = some ⟨oc_run_at, od_run_at, .func (PySem.W.fnOf "run_at" "run_at" (defArgs (top 25)) (defBody (top 25)) (defScope (top 25)) .none kV_run_at dc_run_at pm_run_at an_run_at cd_run_at ct_run_at), sl_run_at⟩)
    (c_run_at : PySem.W.codeIn K cd_run_at "run_at" = true)
    (k_run_at : PySem.W.keepIn K (.ref f_run_at) = true)
    (a_next_runs : PySem.W.nsIn K mainGlobals "next_runs" = some (some (.ref f_next_runs)))
    (l_next_runs : K.lookup f_next_runs = some ⟨oc_next_runs, od_next_runs, .func (PySem.W.fnOf "next_runs" "next_runs" (defArgs (top 26)) (defBody (top 26)) (defScope (top 26)) .none kV_next_runs dc_next_runs pm_next_runs an_next_runs cd_next_runs ct_next_runs), sl_next_runs⟩)
    (c_next_runs : PySem.W.codeIn K cd_next_runs "next_runs" = true)
    (k_next_runs : PySem.W.keepIn K (.ref f_next_runs) = true)
    (a_all_lists : PySem.W.nsIn K mainGlobals "all_lists" = some (some (.ref f_all_lists)))
    (l_all_lists : K.lookup f_all_lists = some ⟨oc_all_lists, od_all_lists, .func (PySem.W.fnOf "all_lists" "all_lists" (defArgs (top 27)) (defBody (top 27)) (defScope (top 27)) .none kV_all_lists dc_all_lists pm_all_lists an_all_lists cd_all_lists ct_all_lists), sl_all_lists⟩)
    (c_all_lists : PySem.W.codeIn K cd_all_lists "all_lists" = true)
    (k_all_lists : PySem.W.keepIn K (.ref f_all_lists) = true)
    (a_runs : PySem.W.nsIn K mainGlobals "runs" = some (some (.ref f_runs)))
    (l_runs : K.lookup f_runs = some ⟨oc_runs, od_runs, .func (PySem.W.fnOf "runs" "runs" (defArgs (top 28)) (defBody (top 28)) (defScope (top 28)) .none kV_runs dc_runs pm_runs an_runs cd_runs ct_runs), sl_runs⟩)
    (c_runs : PySem.W.codeIn K cd_runs "runs" = true)
    (k_runs : PySem.W.keepIn K (.ref f_runs) = true)
    (a_runs_runs : PySem.W.nsIn K mainGlobals "runs_runs" = some (some (.ref f_runs)))
    (a_run_list : PySem.W.nsIn K mainGlobals "run_list" = some (some (.ref f_run_list)))
    (l_run_list : K.lookup f_run_list = some ⟨oc_run_list, od_run_list, .func (PySem.W.fnOf "run_list" "run_list" (defArgs (top 30)) (defBody (top 30)) (defScope (top 30)) .none kV_run_list dc_run_list pm_run_list an_run_list cd_run_list ct_run_list), sl_run_list⟩)
    (c_run_list : PySem.W.codeIn K cd_run_list "run_list" = true)
    (k_run_list : PySem.W.keepIn K (.ref f_run_list) = true)
    (a_free_people : PySem.W.nsIn K mainGlobals "free_people" = some (some (.ref f_free_people)))
    (l_free_people : K.lookup f_free_people = some ⟨oc_free_people, od_free_people, .func (PySem.W.fnOf "free_people" "free_people" (defArgs (top 31)) (defBody (top 31)) (defScope (top 31)) .none kV_free_people dc_free_people pm_free_people an_free_people cd_free_people ct_free_people), sl_free_people⟩)
    (c_free_people : PySem.W.codeIn K cd_free_people "free_people" = true)
    (k_free_people : PySem.W.keepIn K (.ref f_free_people) = true)
    (a_count_lots : PySem.W.nsIn K mainGlobals "count_lots" = some (some (.ref f_count_lots)))
    (l_count_lots : K.lookup f_count_lots = some ⟨oc_count_lots, od_count_lots, .func (PySem.W.fnOf "count_lots" "count_lots" (defArgs (top 33)) (defBody (top 33)) (defScope (top 33)) .none kV_count_lots dc_count_lots pm_count_lots an_count_lots cd_count_lots ct_count_lots), sl_count_lots⟩)
    (c_count_lots : PySem.W.codeIn K cd_count_lots "count_lots" = true)
    (k_count_lots : PySem.W.keepIn K (.ref f_count_lots) = true)
    (a_single_runs : PySem.W.nsIn K mainGlobals "single_runs" = some (some (.ref f_single_runs)))
    (l_single_runs : K.lookup f_single_runs = some ⟨oc_single_runs, od_single_runs, .func (PySem.W.fnOf "single_runs" "single_runs" (defArgs (top 34)) (defBody (top 34)) (defScope (top 34)) .none kV_single_runs dc_single_runs pm_single_runs an_single_runs cd_single_runs ct_single_runs), sl_single_runs⟩)
    (c_single_runs : PySem.W.codeIn K cd_single_runs "single_runs" = true)
    (k_single_runs : PySem.W.keepIn K (.ref f_single_runs) = true)
    (a_signature : PySem.W.nsIn K mainGlobals "signature" = some (some (.ref f_signature)))
    (l_signature : K.lookup f_signature = some ⟨oc_signature, od_signature, .func (PySem.W.fnOf "signature" "signature" (defArgs (top 35)) (defBody (top 35)) (defScope (top 35)) .none kV_signature dc_signature pm_signature an_signature cd_signature ct_signature), sl_signature⟩)
    (c_signature : PySem.W.codeIn K cd_signature "signature" = true)
    (k_signature : PySem.W.keepIn K (.ref f_signature) = true)
    (a_run_counts : PySem.W.nsIn K mainGlobals "run_counts" = some (some (.ref f_run_counts)))
    (l_run_counts : K.lookup f_run_counts = some ⟨oc_run_counts, od_run_counts, .func (PySem.W.fnOf "run_counts" "run_counts" (defArgs (top 36)) (defBody (top 36)) (defScope (top 36)) .none kV_run_counts dc_run_counts pm_run_counts an_run_counts cd_run_counts ct_run_counts), sl_run_counts⟩)
    (c_run_counts : PySem.W.codeIn K cd_run_counts "run_counts" = true)
    (k_run_counts : PySem.W.keepIn K (.ref f_run_counts) = true)
    (a_lot_row : PySem.W.nsIn K mainGlobals "lot_row" = some (some (.ref f_lot_row)))
    (l_lot_row : K.lookup f_lot_row = some ⟨oc_lot_row, od_lot_row, .func (PySem.W.fnOf "lot_row" "lot_row" (defArgs (top 37)) (defBody (top 37)) (defScope (top 37)) .none kV_lot_row dc_lot_row pm_lot_row an_lot_row cd_lot_row ct_lot_row), sl_lot_row⟩)
    (c_lot_row : PySem.W.codeIn K cd_lot_row "lot_row" = true)
    (k_lot_row : PySem.W.keepIn K (.ref f_lot_row) = true)
    (a_left_after : PySem.W.nsIn K mainGlobals "left_after" = some (some (.ref f_left_after)))
    (l_left_after : K.lookup f_left_after = some ⟨oc_left_after, od_left_after, .func (PySem.W.fnOf "left_after" "left_after" (defArgs (top 38)) (defBody (top 38)) (defScope (top 38)) .none kV_left_after dc_left_after pm_left_after an_left_after cd_left_after ct_left_after), sl_left_after⟩)
    (c_left_after : PySem.W.codeIn K cd_left_after "left_after" = true)
    (k_left_after : PySem.W.keepIn K (.ref f_left_after) = true)
    (a_lots_after : PySem.W.nsIn K mainGlobals "lots_after" = some (some (.ref f_lots_after)))
    (l_lots_after : K.lookup f_lots_after = some ⟨oc_lots_after, od_lots_after, .func (PySem.W.fnOf "lots_after" "lots_after" (defArgs (top 39)) (defBody (top 39)) (defScope (top 39)) .none kV_lots_after dc_lots_after pm_lots_after an_lots_after cd_lots_after ct_lots_after), sl_lots_after⟩)
    (c_lots_after : PySem.W.codeIn K cd_lots_after "lots_after" = true)
    (k_lots_after : PySem.W.keepIn K (.ref f_lots_after) = true)
    (a_signature_at : PySem.W.nsIn K mainGlobals "signature_at" = some (some (.ref f_signature_at)))
    (l_signature_at : K.lookup f_signature_at = some ⟨oc_signature_at, od_signature_at, .func (PySem.W.fnOf "signature_at" "signature_at" (defArgs (top 40)) (defBody (top 40)) (defScope (top 40)) .none kV_signature_at dc_signature_at pm_signature_at an_signature_at cd_signature_at ct_signature_at), sl_signature_at⟩)
    (c_signature_at : PySem.W.codeIn K cd_signature_at "signature_at" = true)
    (k_signature_at : PySem.W.keepIn K (.ref f_signature_at) = true)
    (a_signature_number : PySem.W.nsIn K mainGlobals "signature_number" = some (some (.ref f_signature_number)))
    (l_signature_number : K.lookup f_signature_number = some ⟨oc_signature_number, od_signature_number, .func (PySem.W.fnOf "signature_number" "signature_number" (defArgs (top 41)) (defBody (top 41)) (defScope (top 41)) .none kV_signature_number dc_signature_number pm_signature_number an_signature_number cd_signature_number ct_signature_number), sl_signature_number⟩)
    (c_signature_number : PySem.W.codeIn K cd_signature_number "signature_number" = true)
    (k_signature_number : PySem.W.keepIn K (.ref f_signature_number) = true)
    (a_gcd : PySem.W.nsIn K mainGlobals "gcd" = some (some (.ref f_gcd)))
    (l_gcd : K.lookup f_gcd = some ⟨oc_gcd, od_gcd, .func (PySem.W.fnOf "gcd" "gcd" (defArgs (top 43)) (defBody (top 43)) (defScope (top 43)) .none kV_gcd dc_gcd pm_gcd an_gcd cd_gcd ct_gcd), sl_gcd⟩)
    (c_gcd : PySem.W.codeIn K cd_gcd "gcd" = true)
    (k_gcd : PySem.W.keepIn K (.ref f_gcd) = true)
    (a_reduced : PySem.W.nsIn K mainGlobals "reduced" = some (some (.ref f_reduced)))
    (l_reduced : K.lookup f_reduced = some ⟨oc_reduced, od_reduced, .func (PySem.W.fnOf "reduced" "reduced" (defArgs (top 44)) (defBody (top 44)) (defScope (top 44)) .none kV_reduced dc_reduced pm_reduced an_reduced cd_reduced ct_reduced), sl_reduced⟩)
    (c_reduced : PySem.W.codeIn K cd_reduced "reduced" = true)
    (k_reduced : PySem.W.keepIn K (.ref f_reduced) = true)
    (a_are_lower : PySem.W.nsIn K mainGlobals "are_lower" = some (some (.ref f_are_lower)))
    (l_are_lower : K.lookup f_are_lower = some ⟨oc_are_lower, od_are_lower, .func (PySem.W.fnOf "are_lower" "are_lower" (defArgs (top 51)) (defBody (top 51)) (defScope (top 51)) .none kV_are_lower dc_are_lower pm_are_lower an_are_lower cd_are_lower ct_are_lower), sl_are_lower⟩)
    (c_are_lower : PySem.W.codeIn K cd_are_lower "are_lower" = true)
    (k_are_lower : PySem.W.keepIn K (.ref f_are_lower) = true)
    (a_sees_at : PySem.W.nsIn K mainGlobals "sees_at" = some (some (.ref f_sees_at)))
    (l_sees_at : K.lookup f_sees_at = some ⟨oc_sees_at, od_sees_at, .func (PySem.W.fnOf "sees_at" "sees_at" (defArgs (top 52)) (defBody (top 52)) (defScope (top 52)) .none kV_sees_at dc_sees_at pm_sees_at an_sees_at cd_sees_at ct_sees_at), sl_sees_at⟩)
    (c_sees_at : PySem.W.codeIn K cd_sees_at "sees_at" = true)
    (k_sees_at : PySem.W.keepIn K (.ref f_sees_at) = true)
    (a_sights : PySem.W.nsIn K mainGlobals "sights" = some (some (.ref f_sights)))
    (l_sights : K.lookup f_sights = some ⟨oc_sights, od_sights, .func (PySem.W.fnOf "sights" "sights" (defArgs (top 53)) (defBody (top 53)) (defScope (top 53)) .none kV_sights dc_sights pm_sights an_sights cd_sights ct_sights), sl_sights⟩)
    (c_sights : PySem.W.codeIn K cd_sights "sights" = true)
    (k_sights : PySem.W.keepIn K (.ref f_sights) = true)
    (a_exchanges : PySem.W.nsIn K mainGlobals "exchanges" = some (some (.ref f_exchanges)))
    (l_exchanges : K.lookup f_exchanges = some ⟨oc_exchanges, od_exchanges, .func (PySem.W.fnOf "exchanges" "exchanges" (defArgs (top 54)) (defBody (top 54)) (defScope (top 54)) .none kV_exchanges dc_exchanges pm_exchanges an_exchanges cd_exchanges ct_exchanges), sl_exchanges⟩)
    (c_exchanges : PySem.W.codeIn K cd_exchanges "exchanges" = true)
    (k_exchanges : PySem.W.keepIn K (.ref f_exchanges) = true)
    (a_exchanges_sights : PySem.W.nsIn K mainGlobals "exchanges_sights" = some (some (.ref f_exchanges)))
    (a_bar_of : PySem.W.nsIn K mainGlobals "bar_of" = some (some (.ref f_bar_of)))
    (l_bar_of : K.lookup f_bar_of = some ⟨oc_bar_of, od_bar_of, .func (PySem.W.fnOf "bar_of" "bar_of" (defArgs (top 63)) (defBody (top 63)) (defScope (top 63)) .none kV_bar_of dc_bar_of pm_bar_of an_bar_of cd_bar_of ct_bar_of), sl_bar_of⟩)
    (c_bar_of : PySem.W.codeIn K cd_bar_of "bar_of" = true)
    (k_bar_of : PySem.W.keepIn K (.ref f_bar_of) = true)
    (a_bar : PySem.W.nsIn K mainGlobals "bar" = some (some (.ref f_bar)))
    (l_bar : K.lookup f_bar = some ⟨oc_bar, od_bar, .func (PySem.W.fnOf "bar" "bar" (defArgs (top 64)) (defBody (top 64)) (defScope (top 64)) .none kV_bar dc_bar pm_bar an_bar cd_bar ct_bar), sl_bar⟩)
    (c_bar : PySem.W.codeIn K cd_bar "bar" = true)
    (k_bar : PySem.W.keepIn K (.ref f_bar) = true)
    (a_leads : PySem.W.nsIn K mainGlobals "leads" = some (some (.ref f_leads)))
    (l_leads : K.lookup f_leads = some ⟨oc_leads, od_leads, .func (PySem.W.fnOf "leads" "leads" (defArgs (top 65)) (defBody (top 65)) (defScope (top 65)) .none kV_leads dc_leads pm_leads an_leads cd_leads ct_leads), sl_leads⟩)
    (c_leads : PySem.W.codeIn K cd_leads "leads" = true)
    (k_leads : PySem.W.keepIn K (.ref f_leads) = true)
    (a_look_leads : PySem.W.nsIn K mainGlobals "look_leads" = some (some (.ref f_look_leads)))
    (l_look_leads : K.lookup f_look_leads = some ⟨oc_look_leads, od_look_leads, .func (PySem.W.fnOf "look_leads" "look_leads" (defArgs (top 66)) (defBody (top 66)) (defScope (top 66)) .none kV_look_leads dc_look_leads pm_look_leads an_look_leads cd_look_leads ct_look_leads), sl_look_leads⟩)
    (c_look_leads : PySem.W.codeIn K cd_look_leads "look_leads" = true)
    (k_look_leads : PySem.W.keepIn K (.ref f_look_leads) = true)
    (a_count_rows : PySem.W.nsIn K mainGlobals "count_rows" = some (some (.ref f_count_rows)))
    (l_count_rows : K.lookup f_count_rows = some ⟨oc_count_rows, od_count_rows, .func (PySem.W.fnOf "count_rows" "count_rows" (defArgs (top 69)) (defBody (top 69)) (defScope (top 69)) .none kV_count_rows dc_count_rows pm_count_rows an_count_rows cd_count_rows ct_count_rows), sl_count_rows⟩)
    (c_count_rows : PySem.W.codeIn K cd_count_rows "count_rows" = true)
    (k_count_rows : PySem.W.keepIn K (.ref f_count_rows) = true)
    (a_row_at : PySem.W.nsIn K mainGlobals "row_at" = some (some (.ref f_row_at)))
    (l_row_at : K.lookup f_row_at = some ⟨oc_row_at, od_row_at, .func (PySem.W.fnOf "row_at" "row_at" (defArgs (top 70)) (defBody (top 70)) (defScope (top 70)) .none kV_row_at dc_row_at pm_row_at an_row_at cd_row_at ct_row_at), sl_row_at⟩)
    (c_row_at : PySem.W.codeIn K cd_row_at "row_at" = true)
    (k_row_at : PySem.W.keepIn K (.ref f_row_at) = true)
    (a_number_of : PySem.W.nsIn K mainGlobals "number_of" = some (some (.ref f_number_of)))
    (l_number_of : K.lookup f_number_of = some ⟨oc_number_of, od_number_of, .func (PySem.W.fnOf "number_of" "number_of" (defArgs (top 71)) (defBody (top 71)) (defScope (top 71)) .none kV_number_of dc_number_of pm_number_of an_number_of cd_number_of ct_number_of), sl_number_of⟩)
    (c_number_of : PySem.W.codeIn K cd_number_of "number_of" = true)
    (k_number_of : PySem.W.keepIn K (.ref f_number_of) = true)
    (a_all_rows : PySem.W.nsIn K mainGlobals "all_rows" = some (some (.ref f_all_rows)))
    (l_all_rows : K.lookup f_all_rows = some ⟨oc_all_rows, od_all_rows, .func (PySem.W.fnOf "all_rows" "all_rows" (defArgs (top 72)) (defBody (top 72)) (defScope (top 72)) .none kV_all_rows dc_all_rows pm_all_rows an_all_rows cd_all_rows ct_all_rows), sl_all_rows⟩)
    (c_all_rows : PySem.W.codeIn K cd_all_rows "all_rows" = true)
    (k_all_rows : PySem.W.keepIn K (.ref f_all_rows) = true)
    (a__law_look : PySem.W.nsIn K mainGlobals "_law_look" = some (some (.ref f__law_look)))
    (l__law_look : K.lookup f__law_look = some ⟨oc__law_look, od__law_look, .func (PySem.W.fnOf "_law_look" "_law_look" (defArgs (top 82)) (defBody (top 82)) (defScope (top 82)) .none kV__law_look dc__law_look pm__law_look an__law_look cd__law_look ct__law_look), sl__law_look⟩)
    (c__law_look : PySem.W.codeIn K cd__law_look "_law_look" = true)
    (k__law_look : PySem.W.keepIn K (.ref f__law_look) = true)
    (a__law_swaps : PySem.W.nsIn K mainGlobals "_law_swaps" = some (some (.ref f__law_swaps)))
    (l__law_swaps : K.lookup f__law_swaps = some ⟨oc__law_swaps, od__law_swaps, .func (PySem.W.fnOf "_law_swaps" "_law_swaps" (defArgs (top 83)) (defBody (top 83)) (defScope (top 83)) .none kV__law_swaps dc__law_swaps pm__law_swaps an__law_swaps cd__law_swaps ct__law_swaps), sl__law_swaps⟩)
    (c__law_swaps : PySem.W.codeIn K cd__law_swaps "_law_swaps" = true)
    (k__law_swaps : PySem.W.keepIn K (.ref f__law_swaps) = true)
    (a__law_swap : PySem.W.nsIn K mainGlobals "_law_swap" = some (some (.ref f__law_swap)))
    (l__law_swap : K.lookup f__law_swap = some ⟨oc__law_swap, od__law_swap, .func (PySem.W.fnOf "_law_swap" "_law_swap" (defArgs (top 84)) (defBody (top 84)) (defScope (top 84)) .none kV__law_swap dc__law_swap pm__law_swap an__law_swap cd__law_swap ct__law_swap), sl__law_swap⟩)
    (c__law_swap : PySem.W.codeIn K cd__law_swap "_law_swap" = true)
    (k__law_swap : PySem.W.keepIn K (.ref f__law_swap) = true)
    (a__law_every : PySem.W.nsIn K mainGlobals "_law_every" = some (some (.ref f__law_every)))
    (l__law_every : K.lookup f__law_every = some ⟨oc__law_every, od__law_every, .func (PySem.W.fnOf "_law_every" "_law_every" (defArgs (top 85)) (defBody (top 85)) (defScope (top 85)) .none kV__law_every dc__law_every pm__law_every an__law_every cd__law_every ct__law_every), sl__law_every⟩)
    (c__law_every : PySem.W.codeIn K cd__law_every "_law_every" = true)
    (k__law_every : PySem.W.keepIn K (.ref f__law_every) = true)
    (a__law_classes : PySem.W.nsIn K mainGlobals "_law_classes" = some (some (.ref f__law_classes)))
    (l__law_classes : K.lookup f__law_classes = some ⟨oc__law_classes, od__law_classes, .func (PySem.W.fnOf "_law_classes" "_law_classes" (defArgs (top 86)) (defBody (top 86)) (defScope (top 86)) .none kV__law_classes dc__law_classes pm__law_classes an__law_classes cd__law_classes ct__law_classes), sl__law_classes⟩)
    (c__law_classes : PySem.W.codeIn K cd__law_classes "_law_classes" = true)
    (k__law_classes : PySem.W.keepIn K (.ref f__law_classes) = true)
    (a_Line___init__ : PySem.W.findIn K (.ref C_Line) "__init__" = some (some (.ref f_Line___init__)))
    (i_Line___init__ : PySem.W.isFn K (.ref f_Line___init__) = true)
    (l_Line___init__ : K.lookup f_Line___init__ = some ⟨oc_Line___init__, od_Line___init__, .func (PySem.W.fnOf "__init__" "Line.__init__" (defArgs (sL 0)) (defBody (sL 0)) (defScope (sL 0)) (.ref TT_Line___init__) kV_Line___init__ dc_Line___init__ pm_Line___init__ an_Line___init__ cd_Line___init__ ct_Line___init__), sl_Line___init__⟩)
    (t_Line___init__ : K.lookup TT_Line___init__ = some ⟨oT_Line___init__, odT_Line___init__, .seq #[.ref TA_Line___init__] nT_Line___init__, slT_Line___init__⟩)
    (c_Line___init__ : PySem.W.codeIn K cd_Line___init__ "Line.__init__" = true)
    (k_Line___init__ : PySem.W.keepIn K (.ref f_Line___init__) = true)
    (a_Line_row : PySem.W.findIn K (.ref C_Line) "row" = some (some (.ref f_Line_row)))
    (i_Line_row : PySem.W.isFn K (.ref f_Line_row) = true)
    (l_Line_row : K.lookup f_Line_row = some ⟨oc_Line_row, od_Line_row, .func (PySem.W.fnOf "row" "Line.row" (defArgs (sL 1)) (defBody (sL 1)) (defScope (sL 1)) .none kV_Line_row dc_Line_row pm_Line_row an_Line_row cd_Line_row ct_Line_row), sl_Line_row⟩)
    (c_Line_row : PySem.W.codeIn K cd_Line_row "Line.row" = true)
    (k_Line_row : PySem.W.keepIn K (.ref f_Line_row) = true)
    (a_Line_count : PySem.W.findIn K (.ref C_Line) "count" = some (some (.ref f_Line_count)))
    (i_Line_count : PySem.W.isFn K (.ref f_Line_count) = true)
    (l_Line_count : K.lookup f_Line_count = some ⟨oc_Line_count, od_Line_count, .func (PySem.W.fnOf "count" "Line.count" (defArgs (sL 10)) (defBody (sL 10)) (defScope (sL 10)) .none kV_Line_count dc_Line_count pm_Line_count an_Line_count cd_Line_count ct_Line_count), sl_Line_count⟩)
    (c_Line_count : PySem.W.codeIn K cd_Line_count "Line.count" = true)
    (k_Line_count : PySem.W.keepIn K (.ref f_Line_count) = true)
    (a_Line___len__ : PySem.W.findIn K (.ref C_Line) "__len__" = some (some (.ref f_Line___len__)))
    (i_Line___len__ : PySem.W.isFn K (.ref f_Line___len__) = true)
    (l_Line___len__ : K.lookup f_Line___len__ = some ⟨oc_Line___len__, od_Line___len__, .func (PySem.W.fnOf "__len__" "Line.__len__" (defArgs (sL 17)) (defBody (sL 17)) (defScope (sL 17)) .none kV_Line___len__ dc_Line___len__ pm_Line___len__ an_Line___len__ cd_Line___len__ ct_Line___len__), sl_Line___len__⟩)
    (c_Line___len__ : PySem.W.codeIn K cd_Line___len__ "Line.__len__" = true)
    (k_Line___len__ : PySem.W.keepIn K (.ref f_Line___len__) = true)
    (a_Line_come : PySem.W.findIn K (.ref C_Line) "come" = some (some (.ref f_Line_come)))
    (i_Line_come : PySem.W.isFn K (.ref f_Line_come) = true)
    (l_Line_come : K.lookup f_Line_come = some ⟨oc_Line_come, od_Line_come, .func (PySem.W.fnOf "come" "Line.come" (defArgs (sL 4)) (defBody (sL 4)) (defScope (sL 4)) .none kV_Line_come dc_Line_come pm_Line_come an_Line_come cd_Line_come ct_Line_come), sl_Line_come⟩)
    (c_Line_come : PySem.W.codeIn K cd_Line_come "Line.come" = true)
    (k_Line_come : PySem.W.keepIn K (.ref f_Line_come) = true)
    (a_Line_leave : PySem.W.findIn K (.ref C_Line) "leave" = some (some (.ref f_Line_leave)))
    (i_Line_leave : PySem.W.isFn K (.ref f_Line_leave) = true)
    (l_Line_leave : K.lookup f_Line_leave = some ⟨oc_Line_leave, od_Line_leave, .func (PySem.W.fnOf "leave" "Line.leave" (defArgs (sL 5)) (defBody (sL 5)) (defScope (sL 5)) .none kV_Line_leave dc_Line_leave pm_Line_leave an_Line_leave cd_Line_leave ct_Line_leave), sl_Line_leave⟩)
    (c_Line_leave : PySem.W.codeIn K cd_Line_leave "Line.leave" = true)
    (k_Line_leave : PySem.W.keepIn K (.ref f_Line_leave) = true)
    (a_Drift_run_of : PySem.W.findIn K (.ref C_Drift) "run_of" = some (some (.ref f_Drift_run_of)))
    (i_Drift_run_of : PySem.W.isFn K (.ref f_Drift_run_of) = true)
    (l_Drift_run_of : K.lookup f_Drift_run_of = some ⟨oc_Drift_run_of, od_Drift_run_of, .func (PySem.W.fnOf "run_of" "Drift.run_of" (defArgs (sD 1)) (defBody (sD 1)) (defScope (sD 1)) .none kV_Drift_run_of dc_Drift_run_of pm_Drift_run_of an_Drift_run_of cd_Drift_run_of ct_Drift_run_of), sl_Drift_run_of⟩)
    (c_Drift_run_of : PySem.W.codeIn K cd_Drift_run_of "Drift.run_of" = true)
    (k_Drift_run_of : PySem.W.keepIn K (.ref f_Drift_run_of) = true)
    (a_Drift_put_down_to : PySem.W.findIn K (.ref C_Drift) "put_down_to" = some (some (.ref f_Drift_put_down_to)))
    (i_Drift_put_down_to : PySem.W.isFn K (.ref f_Drift_put_down_to) = true)
    (l_Drift_put_down_to : K.lookup f_Drift_put_down_to = some ⟨oc_Drift_put_down_to, od_Drift_put_down_to, .func (PySem.W.fnOf "put_down_to" "Drift.put_down_to" (defArgs (sD 3)) (defBody (sD 3)) (defScope (sD 3)) .none kV_Drift_put_down_to dc_Drift_put_down_to pm_Drift_put_down_to an_Drift_put_down_to cd_Drift_put_down_to ct_Drift_put_down_to), sl_Drift_put_down_to⟩)
    (c_Drift_put_down_to : PySem.W.codeIn K cd_Drift_put_down_to "Drift.put_down_to" = true)
    (k_Drift_put_down_to : PySem.W.keepIn K (.ref f_Drift_put_down_to) = true)
    (a_Drift___init__ : PySem.W.findIn K (.ref C_Drift) "__init__" = some (some (.ref f_Drift___init__)))
    (i_Drift___init__ : PySem.W.isFn K (.ref f_Drift___init__) = true)
    (l_Drift___init__ : K.lookup f_Drift___init__ = some ⟨oc_Drift___init__, od_Drift___init__, .func (PySem.W.fnOf "__init__" "Drift.__init__" (defArgs (sD 0)) (defBody (sD 0)) (defScope (sD 0)) .none kV_Drift___init__ dc_Drift___init__ pm_Drift___init__ an_Drift___init__ cd_Drift___init__ ct_Drift___init__), sl_Drift___init__⟩)
    (c_Drift___init__ : PySem.W.codeIn K cd_Drift___init__ "Drift.__init__" = true)
    (k_Drift___init__ : PySem.W.keepIn K (.ref f_Drift___init__) = true)
    (a_place_ways : PySem.W.nsIn K mainGlobals "place_ways" = some (some (.ref f_place_ways)))
    (l_place_ways : K.lookup f_place_ways = some ⟨oc_place_ways, od_place_ways, .func (PySem.W.fnOf "place_ways" "place_ways" (defArgs (top 46)) (defBody (top 46)) (defScope (top 46)) .none kV_place_ways dc_place_ways pm_place_ways an_place_ways cd_place_ways ct_place_ways), sl_place_ways⟩)
    (c_place_ways : PySem.W.codeIn K cd_place_ways "place_ways" = true)
    (k_place_ways : PySem.W.keepIn K (.ref f_place_ways) = true)
    (a_chances_of : PySem.W.nsIn K mainGlobals "chances_of" = some (some (.ref f_chances_of)))
    (l_chances_of : K.lookup f_chances_of = some ⟨oc_chances_of, od_chances_of, .func (PySem.W.fnOf "chances_of" "chances_of" (defArgs (top 47)) (defBody (top 47)) (defScope (top 47)) .none kV_chances_of dc_chances_of pm_chances_of an_chances_of cd_chances_of ct_chances_of), sl_chances_of⟩)
    (c_chances_of : PySem.W.codeIn K cd_chances_of "chances_of" = true)
    (k_chances_of : PySem.W.keepIn K (.ref f_chances_of) = true)
    (a_places_of : PySem.W.nsIn K mainGlobals "places_of" = some (some (.ref f_places_of)))
    (l_places_of : K.lookup f_places_of = some ⟨oc_places_of, od_places_of, .func (PySem.W.fnOf "places_of" "places_of" (defArgs (top 48)) (defBody (top 48)) (defScope (top 48)) .none kV_places_of dc_places_of pm_places_of an_places_of cd_places_of ct_places_of), sl_places_of⟩)
    (c_places_of : PySem.W.codeIn K cd_places_of "places_of" = true)
    (k_places_of : PySem.W.keepIn K (.ref f_places_of) = true)
    (a_expected_place : PySem.W.nsIn K mainGlobals "expected_place" = some (some (.ref f_expected_place)))
    (l_expected_place : K.lookup f_expected_place = some ⟨oc_expected_place, od_expected_place, .func (PySem.W.fnOf "expected_place" "expected_place" (defArgs (top 49)) (defBody (top 49)) (defScope (top 49)) .none kV_expected_place dc_expected_place pm_expected_place an_expected_place cd_expected_place ct_expected_place), sl_expected_place⟩)
    (c_expected_place : PySem.W.codeIn K cd_expected_place "expected_place" = true)
    (k_expected_place : PySem.W.keepIn K (.ref f_expected_place) = true)
    (a__law_take : PySem.W.nsIn K mainGlobals "_law_take" = some (some (.ref f__law_take)))
    (l__law_take : K.lookup f__law_take = some ⟨oc__law_take, od__law_take, .func (PySem.W.fnOf "_law_take" "_law_take" (defArgs (top 78)) (defBody (top 78)) (defScope (top 78)) .none kV__law_take dc__law_take pm__law_take an__law_take cd__law_take ct__law_take), sl__law_take⟩)
    (c__law_take : PySem.W.codeIn K cd__law_take "_law_take" = true)
    (k__law_take : PySem.W.keepIn K (.ref f__law_take) = true)
    (a__law_of : PySem.W.nsIn K mainGlobals "_law_of" = some (some (.ref f__law_of)))
    (l__law_of : K.lookup f__law_of = some ⟨oc__law_of, od__law_of, .func (PySem.W.fnOf "_law_of" "_law_of" (defArgs (top 80)) (defBody (top 80)) (defScope (top 80)) .none kV__law_of dc__law_of pm__law_of an__law_of cd__law_of ct__law_of), sl__law_of⟩)
    (c__law_of : PySem.W.codeIn K cd__law_of "_law_of" = true)
    (k__law_of : PySem.W.keepIn K (.ref f__law_of) = true)
    (a__law_box : PySem.W.nsIn K mainGlobals "_law_box" = some (some (.ref f__law_box)))
    (l__law_box : K.lookup f__law_box = some ⟨oc__law_box, od__law_box, .func (PySem.W.fnOf "_law_box" "_law_box" (defArgs (top 77)) (defBody (top 77)) (defScope (top 77)) .none kV__law_box dc__law_box pm__law_box an__law_box cd__law_box ct__law_box), sl__law_box⟩)
    (c__law_box : PySem.W.codeIn K cd__law_box "_law_box" = true)
    (k__law_box : PySem.W.keepIn K (.ref f__law_box) = true)
    (a__law_cells : PySem.W.nsIn K mainGlobals "_law_cells" = some (some (.ref f__law_cells)))
    (l__law_cells : K.lookup f__law_cells = some ⟨oc__law_cells, od__law_cells, .func (PySem.W.fnOf "_law_cells" "_law_cells" (defArgs (top 79)) (defBody (top 79)) (defScope (top 79)) .none kV__law_cells dc__law_cells pm__law_cells an__law_cells cd__law_cells ct__law_cells), sl__law_cells⟩)
    (c__law_cells : PySem.W.codeIn K cd__law_cells "_law_cells" = true)
    (k__law_cells : PySem.W.keepIn K (.ref f__law_cells) = true)
    (a__law_same : PySem.W.nsIn K mainGlobals "_law_same" = some (some (.ref f__law_same)))
    (l__law_same : K.lookup f__law_same = some ⟨oc__law_same, od__law_same, .func (PySem.W.fnOf "_law_same" "_law_same" (defArgs (top 81)) (defBody (top 81)) (defScope (top 81)) .none kV__law_same dc__law_same pm__law_same an__law_same cd__law_same ct__law_same), sl__law_same⟩)
    (c__law_same : PySem.W.codeIn K cd__law_same "_law_same" = true)
    (k__law_same : PySem.W.keepIn K (.ref f__law_same) = true)
    (a__law_place_right : PySem.W.nsIn K mainGlobals "_law_place_right" = some (some (.ref f__law_place_right)))
    (l__law_place_right : K.lookup f__law_place_right = some ⟨oc__law_place_right, od__law_place_right, .func (PySem.W.fnOf "_law_place_right" "_law_place_right" (defArgs (top 87)) (defBody (top 87)) (defScope (top 87)) .none kV__law_place_right dc__law_place_right pm__law_place_right an__law_place_right cd__law_place_right ct__law_place_right), sl__law_place_right⟩)
    (c__law_place_right : PySem.W.codeIn K cd__law_place_right "_law_place_right" = true)
    (k__law_place_right : PySem.W.keepIn K (.ref f__law_place_right) = true)
    (a_law : PySem.W.nsIn K mainGlobals "law" = some (some (.ref f_law)))
    (l_law : K.lookup f_law = some ⟨oc_law, od_law, .func (PySem.W.fnOf "law" "law" (defArgs (top 88)) (defBody (top 88)) (defScope (top 88)) .none kV_law dc_law pm_law an_law cd_law ct_law), sl_law⟩)
    (c_law : PySem.W.codeIn K cd_law "law" = true)
    (k_law : PySem.W.keepIn K (.ref f_law) = true)
    : ∃ fd : FuncData, (∀ (s : Shared) (v : Value), BindsTo s fd ⟨[v], []⟩ [("script", v)]) ∧ ∀ base : Heap, K.In base → base.Ns mainGlobals mg → FnOk l.prog w K mg base (L2.CX l.prog w) 11 fa fd ["script"] (spG K relLaw) := by
  have e := hfa.symm.trans (PySem.W.mg_of X G a_law)
  cases e
  refine ⟨PySem.W.fnOf "law" "law" (defArgs (top 88)) (defBody (top 88)) (defScope (top 88)) .none kV_law dc_law pm_law an_law cd_law ct_law, fun s v => .of_eq rfl, fun base _ _ => ?_⟩
  have c_MOST := PySem.W.mg_of X G q_MOST
  have c_MOST_PEOPLE := PySem.W.mg_of X G q_MOST_PEOPLE
  have hbl : ∀ x ∈ blts, mg x = none := by
    intro x hx
    simp only [blts, List.mem_cons, List.not_mem_nil, or_false] at hx
    rcases hx with rfl | rfl | rfl | rfl | rfl | rfl | rfl | rfl | rfl | rfl | rfl | rfl | rfl | rfl | rfl | rfl | rfl | rfl | rfl | rfl | rfl
    · exact PySem.W.mg_none_of X G z_len
    · exact PySem.W.mg_none_of X G z_range
    · exact PySem.W.mg_none_of X G z_sorted
    · exact PySem.W.mg_none_of X G z_list
    · exact PySem.W.mg_none_of X G z_tuple
    · exact PySem.W.mg_none_of X G z_zip
    · exact PySem.W.mg_none_of X G z_enumerate
    · exact PySem.W.mg_none_of X G z_min
    · exact PySem.W.mg_none_of X G z_max
    · exact PySem.W.mg_none_of X G z_sum
    · exact PySem.W.mg_none_of X G z_all
    · exact PySem.W.mg_none_of X G z_any
    · exact PySem.W.mg_none_of X G z_abs
    · exact PySem.W.mg_none_of X G z_int
    · exact PySem.W.mg_none_of X G z_isinstance
    · exact PySem.W.mg_none_of X G z_set
    · exact PySem.W.mg_none_of X G z_str
    · exact PySem.W.mg_none_of X G z_dict
    · exact PySem.W.mg_none_of X G z_bool
    · exact PySem.W.mg_none_of X G z_frozenset
    · exact PySem.W.mg_none_of X G z_reversed
  have m_Drift := PySem.W.mg_of X G aC_Drift
  have T_Drift : DTx K C_Drift := ⟨⟨pg_Drift, hd_Drift, po_Drift, sa_Drift⟩, n0_Drift, n1_Drift, n2_Drift, n3_Drift, n4_Drift⟩
  have m_Line := PySem.W.mg_of X G aC_Line
  have T_Line : LTx K C_Line := ⟨⟨pg_Line, hd_Line, po_Line, sa_Line⟩, n0_Line, n1_Line⟩
  have F_place_of := fun_mk (st := top 12) l_place_of c_place_of k_place_of
  have b_place_of := F_place_of.binds (ps := ["row", "height"]) fun _ _ _ _ _ _ us hl => match us, hl with | [_, _], _ => rfl
  have g_place_of := fn_place_of (P := l.prog) (w := w) (base := base) F_place_of (PySem.W.mg_of X G a_place_of) b_place_of hbl
  have F_look_same := fun_mk (st := top 13) l_look_same c_look_same k_look_same
  have b_look_same := F_look_same.binds (ps := ["one", "other"]) fun _ _ _ _ _ _ us hl => match us, hl with | [_, _], _ => rfl
  have g_look_same := fn_look_same (P := l.prog) (w := w) (base := base) F_look_same (PySem.W.mg_of X G a_look_same) b_look_same hbl
  have F_ranks := fun_mk (st := top 14) l_ranks c_ranks k_ranks
  have b_ranks := F_ranks.binds (ps := ["row"]) fun _ _ _ _ _ _ us hl => match us, hl with | [_], _ => rfl
  have g_ranks := fn_ranks (P := l.prog) (w := w) (base := base) F_ranks (PySem.W.mg_of X G a_ranks) b_ranks hbl
  have F_with_person := fun_mk (st := top 16) l_with_person c_with_person k_with_person
  have b_with_person := F_with_person.binds (ps := ["row", "place", "height"]) fun _ _ _ _ _ _ us hl => match us, hl with | [_, _, _], _ => rfl
  have g_with_person := fn_with_person (P := l.prog) (w := w) (base := base) F_with_person (PySem.W.mg_of X G a_with_person) b_with_person hbl
  have F_without := fun_mk (st := top 17) l_without c_without k_without
  have b_without := F_without.binds (ps := ["row", "height"]) fun _ _ _ _ _ _ us hl => match us, hl with | [_, _], _ => rfl
  have g_without := fn_without (P := l.prog) (w := w) (base := base) g_place_of F_without (PySem.W.mg_of X G a_without) b_without hbl
  have F_rest_row := fun_mk (st := top 19) l_rest_row c_rest_row k_rest_row
  have b_rest_row := F_rest_row.binds (ps := ["row", "height"]) fun _ _ _ _ _ _ us hl => match us, hl with | [_, _], _ => rfl
  have g_rest_row := fn_rest_row (P := l.prog) (w := w) (base := base) F_rest_row (PySem.W.mg_of X G a_rest_row) b_rest_row hbl
  have F_code_of := fun_mk (st := top 20) l_code_of c_code_of k_code_of
  have b_code_of := F_code_of.binds (ps := ["row", "height"]) fun _ _ _ _ _ _ us hl => match us, hl with | [_, _], _ => rfl
  have g_code_of := fn_code_of (P := l.prog) (w := w) (base := base) g_rest_row F_code_of (PySem.W.mg_of X G a_code_of) b_code_of hbl
  have F_codes := fun_mk (st := top 21) l_codes c_codes k_codes
  have b_codes := F_codes.binds (ps := ["row"]) fun _ _ _ _ _ _ us hl => match us, hl with | [_], _ => rfl
  have g_codes := fn_codes (P := l.prog) (w := w) (base := base) g_code_of F_codes (PySem.W.mg_of X G a_codes) b_codes hbl
  have g_codes_codes := fn_codes (P := l.prog) (w := w) (base := base) g_code_of F_codes (PySem.W.mg_of X G a_codes_codes) b_codes hbl
  have F_row_with := fun_mk (st := top 23) l_row_with c_row_with k_row_with
  have b_row_with := F_row_with.binds (ps := ["row", "codes"]) fun _ _ _ _ _ _ us hl => match us, hl with | [_, _], _ => rfl
  have g_row_with := fn_row_with (P := l.prog) (w := w) (base := base) F_row_with (PySem.W.mg_of X G a_row_with) b_row_with hbl
  have F_run_at := fun_mk (st := top 25) l_run_at c_run_at k_run_at
  have b_run_at := F_run_at.binds (ps := ["some", "index"]) fun _ _ _ _ _ _ us hl => match us, hl with | [_, _], _ => rfl
  have g_run_at := fn_run_at (P := l.prog) (w := w) (base := base) F_run_at (PySem.W.mg_of X G a_run_at) b_run_at hbl
  have F_next_runs := fun_mk (st := top 26) l_next_runs c_next_runs k_next_runs
  have b_next_runs := F_next_runs.binds (ps := ["some", "index"]) fun _ _ _ _ _ _ us hl => match us, hl with | [_, _], _ => rfl
  have g_next_runs := fn_next_runs (P := l.prog) (w := w) (base := base) g_run_at F_next_runs (PySem.W.mg_of X G a_next_runs) b_next_runs hbl
  have F_all_lists := fun_mk (st := top 27) l_all_lists c_all_lists k_all_lists
  have b_all_lists := F_all_lists.binds (ps := ["row"]) fun _ _ _ _ _ _ us hl => match us, hl with | [_], _ => rfl
  have g_all_lists := fn_all_lists (P := l.prog) (w := w) (base := base) g_next_runs g_code_of F_all_lists (PySem.W.mg_of X G a_all_lists) b_all_lists hbl
  have F_runs := fun_mk (st := top 28) l_runs c_runs k_runs
  have b_runs := F_runs.binds (ps := ["row"]) fun _ _ _ _ _ _ us hl => match us, hl with | [_], _ => rfl
  have g_runs := fn_runs (P := l.prog) (w := w) (base := base) g_all_lists g_run_at g_code_of F_runs (PySem.W.mg_of X G a_runs) b_runs hbl
  have g_runs_runs := fn_runs (P := l.prog) (w := w) (base := base) g_all_lists g_run_at g_code_of F_runs (PySem.W.mg_of X G a_runs_runs) b_runs hbl
  have F_run_list := fun_mk (st := top 30) l_run_list c_run_list k_run_list
  have b_run_list := F_run_list.binds (ps := ["row", "height"]) fun _ _ _ _ _ _ us hl => match us, hl with | [_, _], _ => rfl
  have g_run_list := fn_run_list (P := l.prog) (w := w) (base := base) g_place_of g_all_lists F_run_list (PySem.W.mg_of X G a_run_list) b_run_list hbl
  have F_free_people := fun_mk (st := top 31) l_free_people c_free_people k_free_people
  have b_free_people := F_free_people.binds (ps := ["row"]) fun _ _ _ _ _ _ us hl => match us, hl with | [_], _ => rfl
  have g_free_people := fn_free_people (P := l.prog) (w := w) (base := base) g_runs_runs F_free_people (PySem.W.mg_of X G a_free_people) b_free_people hbl
  have F_count_lots := fun_mk (st := top 33) l_count_lots c_count_lots k_count_lots
  have b_count_lots := F_count_lots.binds (ps := ["many"]) fun _ _ _ _ _ _ us hl => match us, hl with | [_], _ => rfl
  have g_count_lots := fn_count_lots (P := l.prog) (w := w) (base := base) F_count_lots (PySem.W.mg_of X G a_count_lots) b_count_lots hbl
  have F_single_runs := fun_mk (st := top 34) l_single_runs c_single_runs k_single_runs
  have b_single_runs := F_single_runs.binds (ps := ["many"]) fun _ _ _ _ _ _ us hl => match us, hl with | [_], _ => rfl
  have g_single_runs := fn_single_runs (P := l.prog) (w := w) (base := base) F_single_runs (PySem.W.mg_of X G a_single_runs) b_single_runs hbl
  have F_signature := fun_mk (st := top 35) l_signature c_signature k_signature
  have b_signature := F_signature.binds (ps := ["row"]) fun _ _ _ _ _ _ us hl => match us, hl with | [_], _ => rfl
  have g_signature := fn_signature (P := l.prog) (w := w) (base := base) g_all_lists g_run_at g_code_of F_signature (PySem.W.mg_of X G a_signature) b_signature hbl
  have F_run_counts := fun_mk (st := top 36) l_run_counts c_run_counts k_run_counts
  have b_run_counts := F_run_counts.binds (ps := ["many", "signature"]) fun _ _ _ _ _ _ us hl => match us, hl with | [_, _], _ => rfl
  have g_run_counts := fn_run_counts (P := l.prog) (w := w) (base := base) g_single_runs g_next_runs F_run_counts (PySem.W.mg_of X G a_run_counts) b_run_counts hbl
  have F_lot_row := fun_mk (st := top 37) l_lot_row c_lot_row k_lot_row
  have b_lot_row := F_lot_row.binds (ps := ["many", "signature"]) fun _ _ _ _ _ _ us hl => match us, hl with | [_, _], _ => rfl
  have g_lot_row := fn_lot_row (P := l.prog) (w := w) (base := base) g_single_runs g_next_runs g_row_with F_lot_row (PySem.W.mg_of X G a_lot_row) b_lot_row hbl
  have F_left_after := fun_mk (st := top 38) l_left_after c_left_after k_left_after
  have b_left_after := F_left_after.binds (ps := ["count", "index"]) fun _ _ _ _ _ _ us hl => match us, hl with | [_, _], _ => rfl
  have g_left_after := fn_left_after (P := l.prog) (w := w) (base := base) F_left_after (PySem.W.mg_of X G a_left_after) b_left_after hbl
  have F_lots_after := fun_mk (st := top 39) l_lots_after c_lots_after k_lots_after
  have b_lots_after := F_lots_after.binds (ps := ["count", "index"]) fun _ _ _ _ _ _ us hl => match us, hl with | [_, _], _ => rfl
  have g_lots_after := fn_lots_after (P := l.prog) (w := w) (base := base) g_count_lots g_left_after F_lots_after (PySem.W.mg_of X G a_lots_after) b_lots_after hbl
  have F_signature_at := fun_mk (st := top 40) l_signature_at c_signature_at k_signature_at
  have b_signature_at := F_signature_at.binds (ps := ["many", "number"]) fun _ _ _ _ _ _ us hl => match us, hl with | [_, _], _ => rfl
  have g_signature_at := fn_signature_at (P := l.prog) (w := w) (base := base) g_count_lots g_single_runs g_lots_after g_next_runs F_signature_at (PySem.W.mg_of X G a_signature_at) b_signature_at hbl
  have F_signature_number := fun_mk (st := top 41) l_signature_number c_signature_number k_signature_number
  have b_signature_number := F_signature_number.binds (ps := ["many", "signature"]) fun _ _ _ _ _ _ us hl => match us, hl with | [_, _], _ => rfl
  have g_signature_number := fn_signature_number (P := l.prog) (w := w) (base := base) g_run_counts g_lots_after F_signature_number (PySem.W.mg_of X G a_signature_number) b_signature_number hbl
  have F_gcd := fun_mk (st := top 43) l_gcd c_gcd k_gcd
  have b_gcd := F_gcd.binds (ps := ["one", "other"]) fun _ _ _ _ _ _ us hl => match us, hl with | [_, _], _ => rfl
  have g_gcd := fn_gcd (P := l.prog) (w := w) (base := base) F_gcd (PySem.W.mg_of X G a_gcd) b_gcd hbl
  have F_reduced := fun_mk (st := top 44) l_reduced c_reduced k_reduced
  have b_reduced := F_reduced.binds (ps := ["numerator", "denominator"]) fun _ _ _ _ _ _ us hl => match us, hl with | [_, _], _ => rfl
  have g_reduced := fn_reduced (P := l.prog) (w := w) (base := base) g_gcd F_reduced (PySem.W.mg_of X G a_reduced) b_reduced hbl
  have F_are_lower := fun_mk (st := top 51) l_are_lower c_are_lower k_are_lower
  have b_are_lower := F_are_lower.binds (ps := ["row", "start", "end", "height"]) fun _ _ _ _ _ _ us hl => match us, hl with | [_, _, _, _], _ => rfl
  have g_are_lower := fn_are_lower (P := l.prog) (w := w) (base := base) F_are_lower (PySem.W.mg_of X G a_are_lower) b_are_lower hbl
  have F_sees_at := fun_mk (st := top 52) l_sees_at c_sees_at k_sees_at
  have b_sees_at := F_sees_at.binds (ps := ["row", "i", "j"]) fun _ _ _ _ _ _ us hl => match us, hl with | [_, _, _], _ => rfl
  have g_sees_at := fn_sees_at (P := l.prog) (w := w) (base := base) g_are_lower F_sees_at (PySem.W.mg_of X G a_sees_at) b_sees_at hbl
  have F_sights := fun_mk (st := top 53) l_sights c_sights k_sights
  have b_sights := F_sights.binds (ps := ["row"]) fun _ _ _ _ _ _ us hl => match us, hl with | [_], _ => rfl
  have g_sights := fn_sights (P := l.prog) (w := w) (base := base) g_sees_at F_sights (PySem.W.mg_of X G a_sights) b_sights hbl
  have F_exchanges := fun_mk (st := top 54) l_exchanges c_exchanges k_exchanges
  have b_exchanges := F_exchanges.binds (ps := ["row"]) fun _ _ _ _ _ _ us hl => match us, hl with | [_], _ => rfl
  have g_exchanges := fn_exchanges (P := l.prog) (w := w) (base := base) g_sights F_exchanges (PySem.W.mg_of X G a_exchanges) b_exchanges hbl
  have g_exchanges_sights := fn_exchanges (P := l.prog) (w := w) (base := base) g_sights F_exchanges (PySem.W.mg_of X G a_exchanges_sights) b_exchanges hbl
  have F_bar_of := fun_mk (st := top 63) l_bar_of c_bar_of k_bar_of
  have b_bar_of := F_bar_of.binds (ps := ["one", "other"]) fun _ _ _ _ _ _ us hl => match us, hl with | [_, _], _ => rfl
  have g_bar_of := fn_bar_of (P := l.prog) (w := w) (base := base) g_runs_runs F_bar_of (PySem.W.mg_of X G a_bar_of) b_bar_of hbl
  have F_bar := fun_mk (st := top 64) l_bar c_bar k_bar
  have b_bar := F_bar.binds (ps := ["one", "other"]) fun _ _ _ _ _ _ us hl => match us, hl with | [_, _], _ => rfl
  have g_bar := fn_bar (P := l.prog) (w := w) (base := base) g_look_same g_bar_of F_bar (PySem.W.mg_of X G a_bar) b_bar hbl
  have F_leads := fun_mk (st := top 65) l_leads c_leads k_leads
  have b_leads := F_leads.binds (ps := ["one", "other"]) fun _ _ _ _ _ _ us hl => match us, hl with | [_, _], _ => rfl
  have g_leads := fn_leads (P := l.prog) (w := w) (base := base) g_bar F_leads (PySem.W.mg_of X G a_leads) b_leads hbl
  have F_look_leads := fun_mk (st := top 66) l_look_leads c_look_leads k_look_leads
  have b_look_leads := F_look_leads.binds (ps := ["one", "other"]) fun _ _ _ _ _ _ us hl => match us, hl with | [_, _], _ => rfl
  have g_look_leads := fn_look_leads (P := l.prog) (w := w) (base := base) g_bar F_look_leads (PySem.W.mg_of X G a_look_leads) b_look_leads hbl
  have F_count_rows := fun_mk (st := top 69) l_count_rows c_count_rows k_count_rows
  have b_count_rows := F_count_rows.binds (ps := ["row"]) fun _ _ _ _ _ _ us hl => match us, hl with | [_], _ => rfl
  have g_count_rows := fn_count_rows (P := l.prog) (w := w) (base := base) g_runs_runs F_count_rows (PySem.W.mg_of X G a_count_rows) b_count_rows hbl
  have F_row_at := fun_mk (st := top 70) l_row_at c_row_at k_row_at
  have b_row_at := F_row_at.binds (ps := ["row", "number"]) fun _ _ _ _ _ _ us hl => match us, hl with | [_, _], _ => rfl
  have g_row_at := fn_row_at (P := l.prog) (w := w) (base := base) g_count_rows g_runs_runs g_row_with F_row_at (PySem.W.mg_of X G a_row_at) b_row_at hbl
  have F_number_of := fun_mk (st := top 71) l_number_of c_number_of k_number_of
  have b_number_of := F_number_of.binds (ps := ["row", "other"]) fun _ _ _ _ _ _ us hl => match us, hl with | [_, _], _ => rfl
  have g_number_of := fn_number_of (P := l.prog) (w := w) (base := base) g_look_leads g_runs_runs g_codes_codes F_number_of (PySem.W.mg_of X G a_number_of) b_number_of hbl
  have F_all_rows := fun_mk (st := top 72) l_all_rows c_all_rows k_all_rows
  have b_all_rows := F_all_rows.binds (ps := ["row"]) fun _ _ _ _ _ _ us hl => match us, hl with | [_], _ => rfl
  have g_all_rows := fn_all_rows (P := l.prog) (w := w) (base := base) g_count_rows g_row_at c_MOST F_all_rows (PySem.W.mg_of X G a_all_rows) b_all_rows hbl
  have F__law_look := fun_mk (st := top 82) l__law_look c__law_look k__law_look
  have b__law_look := F__law_look.binds (ps := ["row", "i", "j"]) fun _ _ _ _ _ _ us hl => match us, hl with | [_, _, _], _ => rfl
  have g__law_look := fn__law_look (P := l.prog) (w := w) (base := base) F__law_look (PySem.W.mg_of X G a__law_look) b__law_look hbl
  have F__law_swaps := fun_mk (st := top 83) l__law_swaps c__law_swaps k__law_swaps
  have b__law_swaps := F__law_swaps.binds (ps := ["row"]) fun _ _ _ _ _ _ us hl => match us, hl with | [_], _ => rfl
  have g__law_swaps := fn__law_swaps (P := l.prog) (w := w) (base := base) g__law_look F__law_swaps (PySem.W.mg_of X G a__law_swaps) b__law_swaps hbl
  have F__law_swap := fun_mk (st := top 84) l__law_swap c__law_swap k__law_swap
  have b__law_swap := F__law_swap.binds (ps := ["row", "pair"]) fun _ _ _ _ _ _ us hl => match us, hl with | [_, _], _ => rfl
  have g__law_swap := fn__law_swap (P := l.prog) (w := w) (base := base) F__law_swap (PySem.W.mg_of X G a__law_swap) b__law_swap hbl
  have F__law_every := fun_mk (st := top 85) l__law_every c__law_every k__law_every
  have b__law_every := F__law_every.binds (ps := ["many"]) fun _ _ _ _ _ _ us hl => match us, hl with | [_], _ => rfl
  have g__law_every := fn__law_every (P := l.prog) (w := w) (base := base) F__law_every (PySem.W.mg_of X G a__law_every) b__law_every hbl
  have F__law_classes := fun_mk (st := top 86) l__law_classes c__law_classes k__law_classes
  have b__law_classes := F__law_classes.binds (ps := ["every", "place"]) fun _ _ _ _ _ _ us hl => match us, hl with | [_, _], _ => rfl
  have g__law_classes := fn__law_classes (P := l.prog) (w := w) (base := base) g__law_swaps g__law_swap F__law_classes (PySem.W.mg_of X G a__law_classes) b__law_classes hbl
  have F_Line___init__ := funD_mk (params := defArgs (sL 0)) (bdy := defBody (sL 0)) (scope := defScope (sL 0)) l_Line___init__ t_Line___init__ c_Line___init__ k_Line___init__
  obtain ⟨ds_Line___init__, r_Line___init__, b_Line___init__⟩ := F_Line___init__.binds1 (ps := ["self", "row"]) 2 1 (by simp) rfl fun _ _ _ _ _ _ _ us its h1 h2 => match us, its, h1, h2 with | [_, _], [_], _, _ => ⟨_, rfl, rfl⟩
  cases r_Line___init__
  have G_Line___init__ := l_init (P := l.prog) (w := w) (base := base) T_Line F_Line___init__ ⟨mk_Line, a_Line___init__, i_Line___init__, kc_Line⟩ b_Line___init__ hbl
  have F_Line_row := fun_mk (st := sL 1) l_Line_row c_Line_row k_Line_row
  have b_Line_row := F_Line_row.binds (ps := ["self"]) fun _ _ _ _ _ _ us hl => match us, hl with | [_], _ => rfl
  have G_Line_row := l_row (P := l.prog) (w := w) (base := base) T_Line F_Line_row ⟨a_Line_row, i_Line_row, k_Line_row⟩ b_Line_row hbl
  have F_Line_count := fun_mk (st := sL 10) l_Line_count c_Line_count k_Line_count
  have b_Line_count := F_Line_count.binds (ps := ["self"]) fun _ _ _ _ _ _ us hl => match us, hl with | [_], _ => rfl
  have G_Line_count := l_count (P := l.prog) (w := w) (base := base) T_Line G_Line_row g_count_rows F_Line_count ⟨a_Line_count, i_Line_count, k_Line_count⟩ b_Line_count hbl
  have F_Line___len__ := fun_mk (st := sL 17) l_Line___len__ c_Line___len__ k_Line___len__
  have b_Line___len__ := F_Line___len__.binds (ps := ["self"]) fun _ _ _ _ _ _ us hl => match us, hl with | [_], _ => rfl
  have G_Line___len__ := l_len (P := l.prog) (w := w) (base := base) T_Line G_Line_row F_Line___len__ ⟨a_Line___len__, i_Line___len__, k_Line___len__⟩ b_Line___len__ hbl
  have F_Line_come := fun_mk (st := sL 4) l_Line_come c_Line_come k_Line_come
  have b_Line_come := F_Line_come.binds (ps := ["self", "height", "place"]) fun _ _ _ _ _ _ us hl => match us, hl with | [_, _, _], _ => rfl
  have G_Line_come := l_come (P := l.prog) (w := w) (base := base) T_Line G_Line_row G_Line___len__ g_with_person c_MOST_PEOPLE F_Line_come ⟨a_Line_come, i_Line_come, k_Line_come⟩ b_Line_come hbl
  have F_Line_leave := fun_mk (st := sL 5) l_Line_leave c_Line_leave k_Line_leave
  have b_Line_leave := F_Line_leave.binds (ps := ["self", "height"]) fun _ _ _ _ _ _ us hl => match us, hl with | [_, _], _ => rfl
  have G_Line_leave := l_leave (P := l.prog) (w := w) (base := base) T_Line G_Line_row g_place_of g_without F_Line_leave ⟨a_Line_leave, i_Line_leave, k_Line_leave⟩ b_Line_leave hbl
  have F_Drift_run_of := fun_mk (st := sD 1) l_Drift_run_of c_Drift_run_of k_Drift_run_of
  have b_Drift_run_of := F_Drift_run_of.binds (ps := ["self", "height"]) fun _ _ _ _ _ _ us hl => match us, hl with | [_, _], _ => rfl
  have G_Drift_run_of := d_run_of (P := l.prog) (w := w) (base := base) T_Drift F_Drift_run_of ⟨a_Drift_run_of, i_Drift_run_of, k_Drift_run_of⟩ b_Drift_run_of hbl
  have F_Drift_put_down_to := fun_mk (st := sD 3) l_Drift_put_down_to c_Drift_put_down_to k_Drift_put_down_to
  have b_Drift_put_down_to := F_Drift_put_down_to.binds (ps := ["self", "height"]) fun _ _ _ _ _ _ us hl => match us, hl with | [_, _], _ => rfl
  have G_Drift_put_down_to := d_down (P := l.prog) (w := w) (base := base) T_Drift F_Drift_put_down_to ⟨a_Drift_put_down_to, i_Drift_put_down_to, k_Drift_put_down_to⟩ b_Drift_put_down_to hbl
  have F_Drift___init__ := fun_mk (st := sD 0) l_Drift___init__ c_Drift___init__ k_Drift___init__
  have b_Drift___init__ := F_Drift___init__.binds (ps := ["self", "row", "height"]) fun _ _ _ _ _ _ us hl => match us, hl with | [_, _, _], _ => rfl
  have G_Drift___init__ := d_init (P := l.prog) (w := w) (base := base) T_Drift G_Drift_run_of g_place_of g_runs_runs F_Drift___init__ ⟨mk_Drift, a_Drift___init__, i_Drift___init__, kc_Drift⟩ b_Drift___init__ hbl
  have F_place_ways := fun_mk (st := top 46) l_place_ways c_place_ways k_place_ways
  have b_place_ways := F_place_ways.binds (ps := ["row", "height"]) fun _ _ _ _ _ _ us hl => match us, hl with | [_, _], _ => rfl
  have g_place_ways := fn_place_ways (P := l.prog) (w := w) (base := base) T_Drift m_Drift G_Drift___init__ G_Drift_put_down_to F_place_ways (PySem.W.mg_of X G a_place_ways) b_place_ways hbl
  have F_chances_of := fun_mk (st := top 47) l_chances_of c_chances_of k_chances_of
  have b_chances_of := F_chances_of.binds (ps := ["row", "height"]) fun _ _ _ _ _ _ us hl => match us, hl with | [_, _], _ => rfl
  have g_chances_of := fn_chances_of (P := l.prog) (w := w) (base := base) g_place_ways g_reduced F_chances_of (PySem.W.mg_of X G a_chances_of) b_chances_of hbl
  have F_places_of := fun_mk (st := top 48) l_places_of c_places_of k_places_of
  have b_places_of := F_places_of.binds (ps := ["row", "height"]) fun _ _ _ _ _ _ us hl => match us, hl with | [_, _], _ => rfl
  have g_places_of := fn_places_of (P := l.prog) (w := w) (base := base) g_place_ways F_places_of (PySem.W.mg_of X G a_places_of) b_places_of hbl
  have F_expected_place := fun_mk (st := top 49) l_expected_place c_expected_place k_expected_place
  have b_expected_place := F_expected_place.binds (ps := ["row", "height"]) fun _ _ _ _ _ _ us hl => match us, hl with | [_, _], _ => rfl
  have g_expected_place := fn_expected_place (P := l.prog) (w := w) (base := base) g_place_ways g_reduced F_expected_place (PySem.W.mg_of X G a_expected_place) b_expected_place hbl
  have F__law_take := fun_mk (st := top 78) l__law_take c__law_take k__law_take
  have b__law_take := F__law_take.binds (ps := ["urn", "below"]) fun _ _ _ _ _ _ us hl => match us, hl with | [_, _], _ => rfl
  have g__law_take := fn_law_take (P := l.prog) (w := w) (base := base) F__law_take (PySem.W.mg_of X G a__law_take) b__law_take hbl
  have F__law_of := fun_mk (st := top 80) l__law_of c__law_of k__law_of
  have b__law_of := F__law_of.binds (ps := ["urn", "some"]) fun _ _ _ _ _ _ us hl => match us, hl with | [_, _], _ => rfl
  have g__law_of := fn_law_of (P := l.prog) (w := w) (base := base) g__law_take F__law_of (PySem.W.mg_of X G a__law_of) b__law_of hbl
  have F__law_box := fun_mk (st := top 77) l__law_box c__law_box k__law_box
  have b__law_box := F__law_box.binds (ps := ["script", "k"]) fun _ _ _ _ _ _ us hl => match us, hl with | [_, _], _ => rfl
  have g__law_box := fn_law_box (P := l.prog) (w := w) (base := base) F__law_box (PySem.W.mg_of X G a__law_box) b__law_box hbl
  have F__law_cells := fun_mk (st := top 79) l__law_cells c__law_cells k__law_cells
  have b__law_cells := F__law_cells.binds (ps := ["script", "many"]) fun _ _ _ _ _ _ us hl => match us, hl with | [_, _], _ => rfl
  have g__law_cells := fn_law_cells (P := l.prog) (w := w) (base := base) F__law_cells (PySem.W.mg_of X G a__law_cells) b__law_cells hbl
  have F__law_same := fun_mk (st := top 81) l__law_same c__law_same k__law_same
  have b__law_same := F__law_same.binds (ps := ["got", "goal"]) fun _ _ _ _ _ _ us hl => match us, hl with | [_, _], _ => rfl
  have g__law_same := fn__law_same (P := l.prog) (w := w) (base := base) F__law_same (PySem.W.mg_of X G a__law_same) b__law_same hbl 6
  have F__law_place_right := fun_mk (st := top 87) l__law_place_right c__law_place_right k__law_place_right
  have b__law_place_right := F__law_place_right.binds (ps := ["urn", "many", "every", "place", "classes", "ahead"]) fun _ _ _ _ _ _ us hl => match us, hl with | [_, _, _, _, _, _], _ => rfl
  have B : Fns90 l.prog w K mg base := ⟨g_with_person, g_leads, g_count_rows, g_run_list, g_runs_runs, g_signature, g__law_same, g_all_rows, g_without, g_number_of, g_chances_of, g_places_of, g_expected_place, g_free_people, g_signature_number, g_lot_row, g_ranks, g_bar, g_signature_at, g__law_classes, g_count_lots, g__law_every⟩
  have LK : LineKit l.prog w K mg base C_Line := ⟨T_Line, m_Line, G_Line___init__, G_Line_row, G_Line_come, G_Line_count, G_Line_leave⟩
  have g__law_place_right := fn_place_right (P := l.prog) (w := w) (base := base) B LK g__law_of F__law_place_right (PySem.W.mg_of X G a__law_place_right) b__law_place_right hbl
  have F_law := fun_mk (st := top 88) l_law c_law k_law
  have b_law := F_law.binds (ps := ["script"]) fun _ _ _ _ _ _ us hl => match us, hl with | [_], _ => rfl
  exact ok_law (P := l.prog) (w := w) (base := base) okAll B g__law_box g__law_cells g__law_take g__law_place_right F_law hbl
end Ov
open PySem PySem.W PyProof.Rows in
set_option maxRecDepth 100000 in
set_option maxHeartbeats 0 in
theorem PySem.Challenge.cw_overlooks_k90_main_lots_by_where_the_sho_holds : PySem.Challenge.rw_overlooks_k90_main_lots_by_where_the_sho.Holds := by
  w_on; o_law; k_head; (case hw => w_witness2)
  k_fill
  refine L2.walk_of (l := PySem.Challenge.rw_overlooks_k90_main_lots_by_where_the_sho) (n := 63) (k := 11) (x := "script") (CX := fun w => L2.CX PySem.Challenge.rw_overlooks_k90_main_lots_by_where_the_sho.prog w) (sp := fun w => Ov.spG _ Ov.relLaw) rfl (by decide) rfl ⟨rfl, by decide, by decide⟩ (fun w h Y => PySem.W.kIn_of Y) ?F (fun _ _ a ns hl _ hS => Ov.sp_law hl hS) ?C
  case C => exact fun _ _ _ _ _ ⟨_, _, _, _, _, _, _, _, _, _, _, _, z⟩ => z
  case F =>
    intro w mg fa h KX G hmg
    refine' Ov.all_mk KX G hmg ?q_MOST ?q_MOST_PEOPLE ?z_len ?z_range ?z_sorted ?z_list ?z_tuple ?z_zip ?z_enumerate ?z_min ?z_max ?z_sum ?z_all ?z_any ?z_abs ?z_int ?z_isinstance ?z_set ?z_str ?z_dict ?z_bool ?z_frozenset ?z_reversed ?aC_Drift ?pg_Drift ?hd_Drift ?po_Drift ?sa_Drift ?mk_Drift ?kc_Drift ?n0_Drift ?n1_Drift ?n2_Drift ?n3_Drift ?n4_Drift ?aC_Line ?pg_Line ?hd_Line ?po_Line ?sa_Line ?mk_Line ?kc_Line ?n0_Line ?n1_Line ?a_place_of ?l_place_of ?c_place_of ?k_place_of ?a_look_same ?l_look_same ?c_look_same ?k_look_same ?a_ranks ?l_ranks ?c_ranks ?k_ranks ?a_with_person ?l_with_person ?c_with_person ?k_with_person ?a_without ?l_without ?c_without ?k_without ?a_rest_row ?l_rest_row ?c_rest_row ?k_rest_row ?a_code_of ?l_code_of ?c_code_of ?k_code_of ?a_codes ?l_codes ?c_codes ?k_codes ?a_codes_codes ?a_row_with ?l_row_with ?c_row_with ?k_row_with ?a_run_at ?l_run_at ?c_run_at ?k_run_at ?a_next_runs ?l_next_runs ?c_next_runs ?k_next_runs ?a_all_lists ?l_all_lists ?c_all_lists ?k_all_lists ?a_runs ?l_runs ?c_runs ?k_runs ?a_runs_runs ?a_run_list ?l_run_list ?c_run_list ?k_run_list ?a_free_people ?l_free_people ?c_free_people ?k_free_people ?a_count_lots ?l_count_lots ?c_count_lots ?k_count_lots ?a_single_runs ?l_single_runs ?c_single_runs ?k_single_runs ?a_signature ?l_signature ?c_signature ?k_signature ?a_run_counts ?l_run_counts ?c_run_counts ?k_run_counts ?a_lot_row ?l_lot_row ?c_lot_row ?k_lot_row ?a_left_after ?l_left_after ?c_left_after ?k_left_after ?a_lots_after ?l_lots_after ?c_lots_after ?k_lots_after ?a_signature_at ?l_signature_at ?c_signature_at ?k_signature_at ?a_signature_number ?l_signature_number ?c_signature_number ?k_signature_number ?a_gcd ?l_gcd ?c_gcd ?k_gcd ?a_reduced ?l_reduced ?c_reduced ?k_reduced ?a_are_lower ?l_are_lower ?c_are_lower ?k_are_lower ?a_sees_at ?l_sees_at ?c_sees_at ?k_sees_at ?a_sights ?l_sights ?c_sights ?k_sights ?a_exchanges ?l_exchanges ?c_exchanges ?k_exchanges ?a_exchanges_sights ?a_bar_of ?l_bar_of ?c_bar_of ?k_bar_of ?a_bar ?l_bar ?c_bar ?k_bar ?a_leads ?l_leads ?c_leads ?k_leads ?a_look_leads ?l_look_leads ?c_look_leads ?k_look_leads ?a_count_rows ?l_count_rows ?c_count_rows ?k_count_rows ?a_row_at ?l_row_at ?c_row_at ?k_row_at ?a_number_of ?l_number_of ?c_number_of ?k_number_of ?a_all_rows ?l_all_rows ?c_all_rows ?k_all_rows ?a__law_look ?l__law_look ?c__law_look ?k__law_look ?a__law_swaps ?l__law_swaps ?c__law_swaps ?k__law_swaps ?a__law_swap ?l__law_swap ?c__law_swap ?k__law_swap ?a__law_every ?l__law_every ?c__law_every ?k__law_every ?a__law_classes ?l__law_classes ?c__law_classes ?k__law_classes ?a_Line___init__ ?i_Line___init__ ?l_Line___init__ ?t_Line___init__ ?c_Line___init__ ?k_Line___init__ ?a_Line_row ?i_Line_row ?l_Line_row ?c_Line_row ?k_Line_row ?a_Line_count ?i_Line_count ?l_Line_count ?c_Line_count ?k_Line_count ?a_Line___len__ ?i_Line___len__ ?l_Line___len__ ?c_Line___len__ ?k_Line___len__ ?a_Line_come ?i_Line_come ?l_Line_come ?c_Line_come ?k_Line_come ?a_Line_leave ?i_Line_leave ?l_Line_leave ?c_Line_leave ?k_Line_leave ?a_Drift_run_of ?i_Drift_run_of ?l_Drift_run_of ?c_Drift_run_of ?k_Drift_run_of ?a_Drift_put_down_to ?i_Drift_put_down_to ?l_Drift_put_down_to ?c_Drift_put_down_to ?k_Drift_put_down_to ?a_Drift___init__ ?i_Drift___init__ ?l_Drift___init__ ?c_Drift___init__ ?k_Drift___init__ ?a_place_ways ?l_place_ways ?c_place_ways ?k_place_ways ?a_chances_of ?l_chances_of ?c_chances_of ?k_chances_of ?a_places_of ?l_places_of ?c_places_of ?k_places_of ?a_expected_place ?l_expected_place ?c_expected_place ?k_expected_place ?a__law_take ?l__law_take ?c__law_take ?k__law_take ?a__law_of ?l__law_of ?c__law_of ?k__law_of ?a__law_box ?l__law_box ?c__law_box ?k__law_box ?a__law_cells ?l__law_cells ?c__law_cells ?k__law_cells ?a__law_same ?l__law_same ?c__law_same ?k__law_same ?a__law_place_right ?l__law_place_right ?c__law_place_right ?k__law_place_right ?a_law ?l_law ?c_law ?k_law
    (case q_MOST => k_is)
    (case q_MOST_PEOPLE => k_is)
    (case z_len => k_is)
    (case z_range => k_is)
    (case z_sorted => k_is)
    (case z_list => k_is)
    (case z_tuple => k_is)
    (case z_zip => k_is)
    (case z_enumerate => k_is)
    (case z_min => k_is)
    (case z_max => k_is)
    (case z_sum => k_is)
    (case z_all => k_is)
    (case z_any => k_is)
    (case z_abs => k_is)
    (case z_int => k_is)
    (case z_isinstance => k_is)
    (case z_set => k_is)
    (case z_str => k_is)
    (case z_dict => k_is)
    (case z_bool => k_is)
    (case z_frozenset => k_is)
    (case z_reversed => k_is)
    (case aC_Drift => k_is)
    (case pg_Drift => k_is)
    (case hd_Drift => k_is)
    (case po_Drift => k_is)
    (case sa_Drift => k_is)
    (case mk_Drift => k_is)
    (case kc_Drift => k_is)
    (case n0_Drift => k_is)
    (case n1_Drift => k_is)
    (case n2_Drift => k_is)
    (case n3_Drift => k_is)
    (case n4_Drift => k_is)
    (case aC_Line => k_is)
    (case pg_Line => k_is)
    (case hd_Line => k_is)
    (case po_Line => k_is)
    (case sa_Line => k_is)
    (case mk_Line => k_is)
    (case kc_Line => k_is)
    (case n0_Line => k_is)
    (case n1_Line => k_is)
    (case a_place_of => k_is)
    (case l_place_of => k_is)
    (case c_place_of => k_is)
    (case k_place_of => k_is)
    (case a_look_same => k_is)
    (case l_look_same => k_is)
    (case c_look_same => k_is)
    (case k_look_same => k_is)
    (case a_ranks => k_is)
    (case l_ranks => k_is)
    (case c_ranks => k_is)
    (case k_ranks => k_is)
    (case a_with_person => k_is)
    (case l_with_person => k_is)
    (case c_with_person => k_is)
    (case k_with_person => k_is)
    (case a_without => k_is)
    (case l_without => k_is)
    (case c_without => k_is)
    (case k_without => k_is)
    (case a_rest_row => k_is)
    (case l_rest_row => k_is)
    (case c_rest_row => k_is)
    (case k_rest_row => k_is)
    (case a_code_of => k_is)
    (case l_code_of => k_is)
    (case c_code_of => k_is)
    (case k_code_of => k_is)
    (case a_codes => k_is)
    (case l_codes => k_is)
    (case c_codes => k_is)
    (case k_codes => k_is)
    (case a_codes_codes => k_is)
    (case a_row_with => k_is)
    (case l_row_with => k_is)
    (case c_row_with => k_is)
    (case k_row_with => k_is)
    (case a_run_at => k_is)
    (case l_run_at => k_is)
    (case c_run_at => k_is)
    (case k_run_at => k_is)
    (case a_next_runs => k_is)
    (case l_next_runs => k_is)
    (case c_next_runs => k_is)
    (case k_next_runs => k_is)
    (case a_all_lists => k_is)
    (case l_all_lists => k_is)
    (case c_all_lists => k_is)
    (case k_all_lists => k_is)
    (case a_runs => k_is)
    (case l_runs => k_is)
    (case c_runs => k_is)
    (case k_runs => k_is)
    (case a_runs_runs => k_is)
    (case a_run_list => k_is)
    (case l_run_list => k_is)
    (case c_run_list => k_is)
    (case k_run_list => k_is)
    (case a_free_people => k_is)
    (case l_free_people => k_is)
    (case c_free_people => k_is)
    (case k_free_people => k_is)
    (case a_count_lots => k_is)
    (case l_count_lots => k_is)
    (case c_count_lots => k_is)
    (case k_count_lots => k_is)
    (case a_single_runs => k_is)
    (case l_single_runs => k_is)
    (case c_single_runs => k_is)
    (case k_single_runs => k_is)
    (case a_signature => k_is)
    (case l_signature => k_is)
    (case c_signature => k_is)
    (case k_signature => k_is)
    (case a_run_counts => k_is)
    (case l_run_counts => k_is)
    (case c_run_counts => k_is)
    (case k_run_counts => k_is)
    (case a_lot_row => k_is)
    (case l_lot_row => k_is)
    (case c_lot_row => k_is)
    (case k_lot_row => k_is)
    (case a_left_after => k_is)
    (case l_left_after => k_is)
    (case c_left_after => k_is)
    (case k_left_after => k_is)
    (case a_lots_after => k_is)
    (case l_lots_after => k_is)
    (case c_lots_after => k_is)
    (case k_lots_after => k_is)
    (case a_signature_at => k_is)
    (case l_signature_at => k_is)
    (case c_signature_at => k_is)
    (case k_signature_at => k_is)
    (case a_signature_number => k_is)
    (case l_signature_number => k_is)
    (case c_signature_number => k_is)
    (case k_signature_number => k_is)
    (case a_gcd => k_is)
    (case l_gcd => k_is)
    (case c_gcd => k_is)
    (case k_gcd => k_is)
    (case a_reduced => k_is)
    (case l_reduced => k_is)
    (case c_reduced => k_is)
    (case k_reduced => k_is)
    (case a_are_lower => k_is)
    (case l_are_lower => k_is)
    (case c_are_lower => k_is)
    (case k_are_lower => k_is)
    (case a_sees_at => k_is)
    (case l_sees_at => k_is)
    (case c_sees_at => k_is)
    (case k_sees_at => k_is)
    (case a_sights => k_is)
    (case l_sights => k_is)
    (case c_sights => k_is)
    (case k_sights => k_is)
    (case a_exchanges => k_is)
    (case l_exchanges => k_is)
    (case c_exchanges => k_is)
    (case k_exchanges => k_is)
    (case a_exchanges_sights => k_is)
    (case a_bar_of => k_is)
    (case l_bar_of => k_is)
    (case c_bar_of => k_is)
    (case k_bar_of => k_is)
    (case a_bar => k_is)
    (case l_bar => k_is)
    (case c_bar => k_is)
    (case k_bar => k_is)
    (case a_leads => k_is)
    (case l_leads => k_is)
    (case c_leads => k_is)
    (case k_leads => k_is)
    (case a_look_leads => k_is)
    (case l_look_leads => k_is)
    (case c_look_leads => k_is)
    (case k_look_leads => k_is)
    (case a_count_rows => k_is)
    (case l_count_rows => k_is)
    (case c_count_rows => k_is)
    (case k_count_rows => k_is)
    (case a_row_at => k_is)
    (case l_row_at => k_is)
    (case c_row_at => k_is)
    (case k_row_at => k_is)
    (case a_number_of => k_is)
    (case l_number_of => k_is)
    (case c_number_of => k_is)
    (case k_number_of => k_is)
    (case a_all_rows => k_is)
    (case l_all_rows => k_is)
    (case c_all_rows => k_is)
    (case k_all_rows => k_is)
    (case a__law_look => k_is)
    (case l__law_look => k_is)
    (case c__law_look => k_is)
    (case k__law_look => k_is)
    (case a__law_swaps => k_is)
    (case l__law_swaps => k_is)
    (case c__law_swaps => k_is)
    (case k__law_swaps => k_is)
    (case a__law_swap => k_is)
    (case l__law_swap => k_is)
    (case c__law_swap => k_is)
    (case k__law_swap => k_is)
    (case a__law_every => k_is)
    (case l__law_every => k_is)
    (case c__law_every => k_is)
    (case k__law_every => k_is)
    (case a__law_classes => k_is)
    (case l__law_classes => k_is)
    (case c__law_classes => k_is)
    (case k__law_classes => k_is)
    (case a_Line___init__ => k_is)
    (case i_Line___init__ => k_is)
    (case l_Line___init__ => k_is)
    (case t_Line___init__ => k_is)
    (case c_Line___init__ => k_is)
    (case k_Line___init__ => k_is)
    (case a_Line_row => k_is)
    (case i_Line_row => k_is)
    (case l_Line_row => k_is)
    (case c_Line_row => k_is)
    (case k_Line_row => k_is)
    (case a_Line_count => k_is)
    (case i_Line_count => k_is)
    (case l_Line_count => k_is)
    (case c_Line_count => k_is)
    (case k_Line_count => k_is)
    (case a_Line___len__ => k_is)
    (case i_Line___len__ => k_is)
    (case l_Line___len__ => k_is)
    (case c_Line___len__ => k_is)
    (case k_Line___len__ => k_is)
    (case a_Line_come => k_is)
    (case i_Line_come => k_is)
    (case l_Line_come => k_is)
    (case c_Line_come => k_is)
    (case k_Line_come => k_is)
    (case a_Line_leave => k_is)
    (case i_Line_leave => k_is)
    (case l_Line_leave => k_is)
    (case c_Line_leave => k_is)
    (case k_Line_leave => k_is)
    (case a_Drift_run_of => k_is)
    (case i_Drift_run_of => k_is)
    (case l_Drift_run_of => k_is)
    (case c_Drift_run_of => k_is)
    (case k_Drift_run_of => k_is)
    (case a_Drift_put_down_to => k_is)
    (case i_Drift_put_down_to => k_is)
    (case l_Drift_put_down_to => k_is)
    (case c_Drift_put_down_to => k_is)
    (case k_Drift_put_down_to => k_is)
    (case a_Drift___init__ => k_is)
    (case i_Drift___init__ => k_is)
    (case l_Drift___init__ => k_is)
    (case c_Drift___init__ => k_is)
    (case k_Drift___init__ => k_is)
    (case a_place_ways => k_is)
    (case l_place_ways => k_is)
    (case c_place_ways => k_is)
    (case k_place_ways => k_is)
    (case a_chances_of => k_is)
    (case l_chances_of => k_is)
    (case c_chances_of => k_is)
    (case k_chances_of => k_is)
    (case a_places_of => k_is)
    (case l_places_of => k_is)
    (case c_places_of => k_is)
    (case k_places_of => k_is)
    (case a_expected_place => k_is)
    (case l_expected_place => k_is)
    (case c_expected_place => k_is)
    (case k_expected_place => k_is)
    (case a__law_take => k_is)
    (case l__law_take => k_is)
    (case c__law_take => k_is)
    (case k__law_take => k_is)
    (case a__law_of => k_is)
    (case l__law_of => k_is)
    (case c__law_of => k_is)
    (case k__law_of => k_is)
    (case a__law_box => k_is)
    (case l__law_box => k_is)
    (case c__law_box => k_is)
    (case k__law_box => k_is)
    (case a__law_cells => k_is)
    (case l__law_cells => k_is)
    (case c__law_cells => k_is)
    (case k__law_cells => k_is)
    (case a__law_same => k_is)
    (case l__law_same => k_is)
    (case c__law_same => k_is)
    (case k__law_same => k_is)
    (case a__law_place_right => k_is)
    (case l__law_place_right => k_is)
    (case c__law_place_right => k_is)
    (case k__law_place_right => k_is)
    (case a_law => k_is)
    (case l_law => k_is)
    (case c_law => k_is)
    (case k_law => k_is)
#print axioms PySem.Challenge.cw_overlooks_k90_main_lots_by_where_the_sho_holds
