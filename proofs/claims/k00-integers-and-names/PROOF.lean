import PyProof.Rows.All
import Wide.All
import OpenK.AllK
import Wide.FinOn
import HandS.ForMost
import HandS.Exc
import HandS.TryOnly
import HandS.ExcOwn
import HandS.WordsExc
import HandS.Wide
import HandS.IsInst
import KE.SortData
import KE.DataCmp
import KE.DataEq
import PyProof.ReprRoads
import HandS.TupAny
import HandS.TupMul
import HandS.Conv
import HandS.RaiseMore
import HandS.TupLen
import HandS.Iter
import HandS.EndBits
import PySem.Challenge.RW_joinmore_k00_integers_and_names
set_option Elab.async false
set_option linter.all false
set_option maxRecDepth 100000
/-! JmA: plain data D, what a value holds (Rep), how the abstract heap may grow (Ext). -/
namespace JM
open PySem PySem.Spec PyProof.Rows L2

/-- plain data; an instance: its class's number, its fields' names and values -/
inductive D where
  | non | bl (b : Bool) | int (i : Int) | str (x : Str)
  | tup (xs : List D) | lst (xs : List D)
  | dct (ks vs : List D)
  | ins (c : Nat) (ns : List Str) (vs : List D)
  deriving Inhabited

namespace D
mutual
def beq : D → D → Bool
  | .non, .non => true
  | .bl a, .bl b => a == b
  | .int a, .int b => a == b
  | .str a, .str b => decide (a = b)
  | .tup a, .tup b => beqs a b
  | .lst a, .lst b => beqs a b
  | .dct a b, .dct c d => beqs a c && beqs b d
  | .ins a b c, .ins d e f => a == d && decide (b = e) && beqs c f
  | _, _ => false
def beqs : List D → List D → Bool
  | [], [] => true
  | a :: x, b :: y => beq a b && beqs x y
  | _, _ => false
end
mutual
theorem beq_self : ∀ a : D, beq a a = true
  | .non => rfl
  | .bl a => by simp [beq]
  | .int a => by simp [beq]
  | .str a => by simp [beq]
  | .tup a => by rw [beq]; exact beqs_self a
  | .lst a => by rw [beq]; exact beqs_self a
  | .dct a b => by rw [beq, beqs_self a, beqs_self b]; rfl
  | .ins a b c => by rw [beq, beqs_self c]; simp
theorem beqs_self : ∀ a : List D, beqs a a = true
  | [] => rfl
  | a :: x => by rw [beqs, beq_self a, beqs_self x]; rfl
end
mutual
theorem eq_of_beq : ∀ a b : D, beq a b = true → a = b
  | .non, b, h => by cases b <;> first | rfl | (simp [beq] at h)
  | .bl a, b, h => by cases b <;> simp [beq] at h; rw [h]
  | .int a, b, h => by cases b <;> simp [beq] at h; rw [h]
  | .str a, b, h => by cases b <;> simp [beq] at h; rw [h]
  | .tup a, b, h => by cases b <;> simp [beq] at h; rw [eq_of_beqs a _ h]
  | .lst a, b, h => by cases b <;> simp [beq] at h; rw [eq_of_beqs a _ h]
  | .dct a c, b, h => by cases b <;> simp [beq] at h; rw [eq_of_beqs a _ h.1, eq_of_beqs c _ h.2]
  | .ins a b c, x, h => by cases x <;> simp [beq] at h; rw [h.1.1, h.1.2, eq_of_beqs c _ h.2]
theorem eq_of_beqs : ∀ a b : List D, beqs a b = true → a = b
  | [], b, h => by cases b <;> first | rfl | (simp [beqs] at h)
  | a :: x, b, h => by
    cases b with
    | nil => simp [beqs] at h
    | cons b y => simp [beqs] at h; rw [eq_of_beq a b h.1, eq_of_beqs x y h.2]
end
instance : DecidableEq D := fun a b => if h : beq a b = true then .isTrue (eq_of_beq a b h) else .isFalse fun e => h (e ▸ beq_self a)

mutual
/-- as the library's data; an instance has none -/
def py : D → PyData
  | .non => .none
  | .bl b => .bool b
  | .int i => .int i
  | .str x => .str x
  | .tup xs => .tuple (pys xs)
  | .lst xs => .list (pys xs)
  | .dct ks vs => .dict ((pys ks).zip (pys vs))
  | .ins _ _ _ => .none
def pys : List D → List PyData
  | [] => []
  | x :: xs => py x :: pys xs
end
mutual
/-- no dict, no instance within -/
def flat : D → Bool
  | .non => true
  | .bl _ => true
  | .int _ => true
  | .str _ => true
  | .tup xs => flats xs
  | .lst xs => flats xs
  | .dct _ _ => false
  | .ins _ _ _ => false
def flats : List D → Bool
  | [] => true
  | x :: xs => flat x && flats xs
end
mutual
/-- no instance within -/
def noIns : D → Bool
  | .non => true
  | .bl _ => true
  | .int _ => true
  | .str _ => true
  | .tup xs => noInss xs
  | .lst xs => noInss xs
  | .dct ks vs => noInss ks && noInss vs && (ks.length == vs.length)
  | .ins _ _ _ => false
def noInss : List D → Bool
  | [] => true
  | x :: xs => noIns x && noInss xs
end
mutual
/-- no list, no instance within -/
def noLst : D → Bool
  | .non => true
  | .bl _ => true
  | .int _ => true
  | .str _ => true
  | .tup xs => noLsts xs
  | .lst _ => false
  | .dct ks vs => noLsts ks && noLsts vs
  | .ins _ _ _ => false
def noLsts : List D → Bool
  | [] => true
  | x :: xs => noLst x && noLsts xs
end
theorem pys_map : ∀ xs : List D, pys xs = xs.map py
  | [] => rfl
  | x :: xs => by rw [pys, pys_map xs]; rfl
theorem flats_all : ∀ xs : List D, flats xs = xs.all flat
  | [] => rfl
  | x :: xs => by rw [flats, flats_all xs]; rfl
mutual
theorem plain_of_flat : ∀ d : D, flat d = true → d.py.plain = true
  | .non, _ => rfl
  | .bl _, _ => rfl
  | .int _, _ => rfl
  | .str _, _ => rfl
  | .tup xs, h => by rw [py, PyData.plain]; exact plain_of_flats xs h
  | .lst xs, h => by rw [py, PyData.plain]; exact plain_of_flats xs h
  | .dct _ _, h => nomatch h
  | .ins _ _ _, h => nomatch h
theorem plain_of_flats : ∀ xs : List D, flats xs = true → PyData.plainAll (pys xs) = true
  | [], _ => rfl
  | x :: xs, h => by
    rw [flats, Bool.and_eq_true] at h
    rw [pys, PyData.plainAll, plain_of_flat x h.1, plain_of_flats xs h.2]; rfl
end
mutual
theorem noIns_of_flat : ∀ d : D, flat d = true → noIns d = true
  | .non, _ => rfl
  | .bl _, _ => rfl
  | .int _, _ => rfl
  | .str _, _ => rfl
  | .tup xs, h => by rw [noIns]; exact noInss_of_flats xs h
  | .lst xs, h => by rw [noIns]; exact noInss_of_flats xs h
  | .dct _ _, h => nomatch h
  | .ins _ _ _, h => nomatch h
theorem noInss_of_flats : ∀ xs : List D, flats xs = true → noInss xs = true
  | [], _ => rfl
  | x :: xs, h => by
    rw [flats, Bool.and_eq_true] at h
    rw [noInss, noIns_of_flat x h.1, noInss_of_flats xs h.2]; rfl
end
end D

/-- a dict's key as data -/
def keyD : Key → D
  | .inl i => .int i
  | .inr x => .str x

/-! ### what a value holds -/
section
variable (κ : Nat → Addr) (F : Addr → Prop) (H : Hp)
mutual
/-- v holds d; every object on the way is frozen (F) -/
def Rep : D → V → Prop
  | .non, v => v = .non
  | .bl b, v => v = .bl b
  | .int i, v => v = .int i
  | .str x, v => v = .str x
  | .tup ds, v => ∃ a vs, v = .ref a ∧ F a ∧ Rd H a (.tup vs) ∧ Reps ds vs
  | .lst ds, v => ∃ a vs, v = .ref a ∧ F a ∧ Rd H a (.lst vs) ∧ Reps ds vs
  | .dct ks ds, v => ∃ a vs, v = .ref a ∧ F a ∧ Reps ds vs ∧
      ((∃ kvs : List (Key × V), H a = some (.dK kvs) ∧ ks = kvs.map (fun p => keyD p.1) ∧ vs = kvs.map (·.2)) ∨
       (∃ kvs : List (List Key × V), H a = some (.dT kvs) ∧ ks = kvs.map (fun p => .tup (p.1.map keyD)) ∧ vs = kvs.map (·.2)))
  | .ins c ns ds, v => ∃ a dx fs vs, v = .ref a ∧ F a ∧ H a = some (.ins (κ c) dx fs) ∧ ns = fs.map (·.1) ∧ vs = fs.map (·.2) ∧ Reps ds vs
def Reps : List D → List V → Prop
  | [], vs => vs = []
  | d :: ds, vs => ∃ v r, vs = v :: r ∧ Rep d v ∧ Reps ds r
end
/-- at a stands an object that may change: its parts are frozen -/
def Own (a : Addr) : D → Prop
  | .lst ds => ∃ vs, H a = some (.lst vs) ∧ Reps κ F H ds vs
  | .dct ks ds => ∃ vs, Reps κ F H ds vs ∧
      ((∃ kvs : List (Key × V), H a = some (.dK kvs) ∧ ks = kvs.map (fun p => keyD p.1) ∧ vs = kvs.map (·.2)) ∨
       (∃ kvs : List (List Key × V), H a = some (.dT kvs) ∧ ks = kvs.map (fun p => .tup (p.1.map keyD)) ∧ vs = kvs.map (·.2)))
  | .ins c ns ds => ∃ dx fs vs, H a = some (.ins (κ c) dx fs) ∧ ns = fs.map (·.1) ∧ vs = fs.map (·.2) ∧ Reps κ F H ds vs
  | _ => False
end

section
variable {κ : Nat → Addr} {F F' : Addr → Prop} {H H' : Hp}
theorem Rd.keep {a : Addr} {u : HO} (h : ∀ o, H a = some o → H' a = some o) (r : Rd H a u) : Rd H' a u := by
  rcases r with r | ⟨o, r⟩
  · exact .inl (h _ r)
  · exact .inr ⟨o, h _ r⟩
mutual
theorem Rep.mono (hF : ∀ a, F a → F' a) (hH : ∀ a o, F a → H a = some o → H' a = some o) : ∀ (d : D) (v : V), Rep κ F H d v → Rep κ F' H' d v
  | .non, _, h => h
  | .bl _, _, h => h
  | .int _, _, h => h
  | .str _, _, h => h
  | .tup ds, v, h => by
    obtain ⟨a, vs, e, f, r, q⟩ := h
    exact ⟨a, vs, e, hF a f, Rd.keep (fun o => hH a o f) r, Reps.mono hF hH ds vs q⟩
  | .lst ds, v, h => by
    obtain ⟨a, vs, e, f, r, q⟩ := h
    exact ⟨a, vs, e, hF a f, Rd.keep (fun o => hH a o f) r, Reps.mono hF hH ds vs q⟩
  | .dct ks ds, v, h => by
    obtain ⟨a, vs, e, f, q, r⟩ := h
    refine ⟨a, vs, e, hF a f, Reps.mono hF hH ds vs q, ?_⟩
    rcases r with ⟨kvs, r1, r2⟩ | ⟨kvs, r1, r2⟩
    · exact .inl ⟨kvs, hH a _ f r1, r2⟩
    · exact .inr ⟨kvs, hH a _ f r1, r2⟩
  | .ins c ns ds, v, h => by
    obtain ⟨a, dx, fs, vs, e, f, r, e1, e2, q⟩ := h
    exact ⟨a, dx, fs, vs, e, hF a f, hH a _ f r, e1, e2, Reps.mono hF hH ds vs q⟩
theorem Reps.mono (hF : ∀ a, F a → F' a) (hH : ∀ a o, F a → H a = some o → H' a = some o) : ∀ (ds : List D) (vs : List V), Reps κ F H ds vs → Reps κ F' H' ds vs
  | [], _, h => h
  | d :: ds, _, h => by
    obtain ⟨v, r, e, h1, h2⟩ := h
    exact ⟨v, r, e, Rep.mono hF hH d v h1, Reps.mono hF hH ds r h2⟩
end
theorem Reps.nil : Reps κ F H [] [] := rfl
theorem Reps.cons {d : D} {ds : List D} {v : V} {vs : List V} (h : Rep κ F H d v) (t : Reps κ F H ds vs) : Reps κ F H (d :: ds) (v :: vs) := ⟨v, vs, rfl, h, t⟩
theorem Reps.length : ∀ {ds : List D} {vs : List V}, Reps κ F H ds vs → vs.length = ds.length
  | [], _, h => by rw [show _ = ([] : List V) from h]; rfl
  | d :: ds, _, h => by
    obtain ⟨v, r, rfl, _, h2⟩ := h
    rw [List.length_cons, List.length_cons, Reps.length h2]
theorem Reps.get : ∀ {ds : List D} {vs : List V} {i : Nat} {d : D}, Reps κ F H ds vs → ds[i]? = some d → ∃ v, vs[i]? = some v ∧ Rep κ F H d v
  | [], _, _, _, _, e => by simp at e
  | d :: ds, _, 0, _, h, e => by
    obtain ⟨v, r, rfl, h1, _⟩ := h
    simp at e; subst e
    exact ⟨v, rfl, h1⟩
  | d :: ds, _, i + 1, _, h, e => by
    obtain ⟨v, r, rfl, _, h2⟩ := h
    obtain ⟨w, e1, e2⟩ := Reps.get (i := i) h2 (by simpa using e)
    exact ⟨w, by simpa using e1, e2⟩
theorem Reps.getV : ∀ {ds : List D} {vs : List V} {i : Nat} {v : V}, Reps κ F H ds vs → vs[i]? = some v → ∃ d, ds[i]? = some d ∧ Rep κ F H d v
  | [], _, _, _, h, e => by
    rw [show _ = ([] : List V) from h] at e; simp at e
  | d :: ds, _, 0, _, h, e => by
    obtain ⟨v, r, rfl, h1, _⟩ := h
    simp at e; subst e
    exact ⟨d, rfl, h1⟩
  | d :: ds, _, i + 1, _, h, e => by
    obtain ⟨v, r, rfl, _, h2⟩ := h
    obtain ⟨w, e1, e2⟩ := Reps.getV (i := i) h2 (by simpa using e)
    exact ⟨w, by simpa using e1, e2⟩
theorem Reps.append : ∀ {ds es : List D} {vs ws : List V}, Reps κ F H ds vs → Reps κ F H es ws → Reps κ F H (ds ++ es) (vs ++ ws)
  | [], _, _, _, h, k => by rw [show _ = ([] : List V) from h]; exact k
  | d :: ds, _, _, _, h, k => by
    obtain ⟨v, r, rfl, h1, h2⟩ := h
    exact ⟨v, _, rfl, h1, Reps.append h2 k⟩
theorem Reps.one {d : D} {v : V} (h : Rep κ F H d v) : Reps κ F H [d] [v] := .cons h .nil
theorem Reps.set {x : D} {v : V} (hx : Rep κ F H x v) : ∀ {ds : List D} {vs : List V} (i : Nat), Reps κ F H ds vs → Reps κ F H (ds.set i x) (vs.set i v)
  | [], _, _, h => by rw [show _ = ([] : List V) from h]; exact rfl
  | d :: ds, _, 0, h => by
    obtain ⟨w, r, rfl, h1, h2⟩ := h
    exact ⟨v, r, rfl, hx, h2⟩
  | d :: ds, _, i + 1, h => by
    obtain ⟨w, r, rfl, h1, h2⟩ := h
    exact ⟨w, _, rfl, h1, Reps.set hx i h2⟩
theorem Reps.take : ∀ {ds : List D} {vs : List V} (n : Nat), Reps κ F H ds vs → Reps κ F H (ds.take n) (vs.take n)
  | _, _, 0, _ => by simp; exact rfl
  | [], _, n + 1, h => by rw [show _ = ([] : List V) from h]; exact rfl
  | d :: ds, _, n + 1, h => by
    obtain ⟨w, r, rfl, h1, h2⟩ := h
    exact ⟨w, _, rfl, h1, Reps.take n h2⟩
theorem Reps.drop : ∀ {ds : List D} {vs : List V} (n : Nat), Reps κ F H ds vs → Reps κ F H (ds.drop n) (vs.drop n)
  | _, _, 0, h => h
  | [], _, n + 1, h => by rw [show _ = ([] : List V) from h]; exact rfl
  | d :: ds, _, n + 1, h => by
    obtain ⟨w, r, rfl, h1, h2⟩ := h
    exact Reps.drop n h2
theorem Reps.eraseIdx : ∀ {ds : List D} {vs : List V} (i : Nat), Reps κ F H ds vs → Reps κ F H (ds.eraseIdx i) (vs.eraseIdx i)
  | [], _, _, h => by rw [show _ = ([] : List V) from h]; exact rfl
  | d :: ds, _, 0, h => by
    obtain ⟨w, r, rfl, h1, h2⟩ := h
    exact h2
  | d :: ds, _, i + 1, h => by
    obtain ⟨w, r, rfl, h1, h2⟩ := h
    exact ⟨w, _, rfl, h1, Reps.eraseIdx i h2⟩
theorem Reps.reverse : ∀ {ds : List D} {vs : List V}, Reps κ F H ds vs → Reps κ F H ds.reverse vs.reverse
  | [], _, h => by rw [show _ = ([] : List V) from h]; exact rfl
  | d :: ds, _, h => by
    obtain ⟨w, r, rfl, h1, h2⟩ := h
    rw [List.reverse_cons, List.reverse_cons]
    exact Reps.append (Reps.reverse h2) (.one h1)
theorem Own.mono (hF : ∀ a, F a → F' a) (hH : ∀ a o, F a → H a = some o → H' a = some o) {a : Addr} (ha : ∀ o, H a = some o → H' a = some o) : ∀ {d : D}, Own κ F H a d → Own κ F' H' a d := by
  intro d h
  cases d with
  | lst ds => obtain ⟨vs, h1, h2⟩ := h; exact ⟨vs, ha _ h1, Reps.mono hF hH _ _ h2⟩
  | dct ks ds =>
    obtain ⟨vs, h2, r⟩ := h
    refine ⟨vs, Reps.mono hF hH _ _ h2, ?_⟩
    rcases r with ⟨kvs, r1, r2⟩ | ⟨kvs, r1, r2⟩
    · exact .inl ⟨kvs, ha _ r1, r2⟩
    · exact .inr ⟨kvs, ha _ r1, r2⟩
  | ins c ns ds => obtain ⟨dx, fs, vs, h1, e1, e2, h2⟩ := h; exact ⟨dx, fs, vs, ha _ h1, e1, e2, Reps.mono hF hH _ _ h2⟩
  | _ => exact h.elim
/-- an own object freezes -/
theorem Own.rep {a : Addr} {d : D} (h : Own κ F H a d) : Rep κ (fun b => F b ∨ b = a) H d (.ref a) := by
  have m : ∀ b, F b → (F b ∨ b = a) := fun b q => .inl q
  cases d with
  | lst ds => obtain ⟨vs, h1, h2⟩ := h; exact ⟨a, vs, rfl, .inr rfl, .of h1, Reps.mono m (fun _ _ _ e => e) _ _ h2⟩
  | dct ks ds => obtain ⟨vs, h2, r⟩ := h; exact ⟨a, vs, rfl, .inr rfl, Reps.mono m (fun _ _ _ e => e) _ _ h2, r⟩
  | ins c ns ds => obtain ⟨dx, fs, vs, h1, e1, e2, h2⟩ := h; exact ⟨a, dx, fs, vs, rfl, .inr rfl, h1, e1, e2, Reps.mono m (fun _ _ _ e => e) _ _ h2⟩
  | _ => exact h.elim
theorem Own.some {a : Addr} {d : D} (h : Own κ F H a d) : ∃ o, H a = some o := by
  cases d with
  | lst ds => obtain ⟨vs, h1, _⟩ := h; exact ⟨_, h1⟩
  | dct ks ds =>
    obtain ⟨vs, h2, r⟩ := h
    rcases r with ⟨kvs, r1, r2⟩ | ⟨kvs, r1, r2⟩
    · exact ⟨_, r1⟩
    · exact ⟨_, r1⟩
  | ins c ns ds => obtain ⟨dx, fs, vs, h1, _⟩ := h; exact ⟨_, h1⟩
  | _ => exact h.elim
end
end JM

namespace JM
open PySem PySem.Spec L2

section
variable {X : Cx} {pins : List (Addr × Obj)} {σ : St} {H : Hp} {s : Shared} {κ : Nat → Addr} {F : Addr → Prop}
theorem Rd.tupAt (I : Inv X pins σ H s) {a : Addr} {vs : List V} (r : Rd H a (.tup vs)) : ∃ its : List Value, Vals vs its ∧ PyProof.Rows.IsTup s.heap a its.toArray ∧ vs.length ≤ sizeLine := by
  obtain ⟨z, its, e, p⟩ := r.ok I.hok
  exact ⟨its, e, p, z⟩
theorem Rd.lstAt (I : Inv X pins σ H s) {a : Addr} {vs : List V} (r : Rd H a (.lst vs)) : ∃ (its : List Value) (n : Nat), Vals vs its ∧ s.heap.get? a = some { cls := .type "list", data := .seq its.toArray n } ∧ vs.length ≤ sizeLine := by
  obtain ⟨z, its, n, e, p⟩ := r.ok I.hok
  exact ⟨its, n, e, p, z⟩
theorem paired_zip {α : Type} : ∀ {ks : List α} {vs : List V} {us : List Value}, ks.length = vs.length → Vals vs us → Paired (fun (p : α × V) (q : α × Value) => p.1 = q.1 ∧ RelV p.2 q.2) (ks.zip vs) (ks.zip us)
  | [], _, _, _, _ => .nil
  | k :: ks, _, _, h, .nil => by simp at h
  | k :: ks, _, _, h, .cons r t => .cons ⟨rfl, r⟩ (paired_zip (by simpa using h) t)

/-- keys by value, as data -/
theorem kV_rep (k : Key) : Rep κ F H (keyD k) (kV k) := by cases k <;> rfl
theorem kVs_reps : ∀ ks : List Key, Reps κ F H (ks.map keyD) (ks.map kV)
  | [] => rfl
  | k :: ks => ⟨_, _, rfl, kV_rep k, kVs_reps ks⟩

theorem keyIs_rel {k : Key} {u : Value} (h : keyIs k u = true) : RelV (kV k) u := by
  rcases keyIs_shape h with ⟨i, t, rfl, rfl⟩ | ⟨x, t, rfl, rfl⟩
  · exact ⟨t, rfl⟩
  · exact ⟨t, rfl⟩
theorem pairs_keys {P : Program} {w : World} : ∀ {es : List DictEntry} {kvs : List (Key × Value)}, Pairs (mixKind P w) es kvs → Vals (kvs.map fun p => kV p.1) (es.map (·.key)) ∧ es.map (·.val) = kvs.map (·.2)
  | _, _, .nil => ⟨.nil, rfl⟩
  | _, _, .cons h1 h2 t => by
    obtain ⟨a, b⟩ := pairs_keys t
    exact ⟨.cons (keyIs_rel h1) a, by rw [List.map_cons, List.map_cons, h2, b]⟩
theorem kv_vals : ∀ {kvs : List (Key × V)} {vs : List (Key × Value)}, KV kvs vs → kvs.map (·.1) = vs.map (·.1) ∧ Vals (kvs.map (·.2)) (vs.map (·.2))
  | _, _, .nil => ⟨rfl, .nil⟩
  | _, _, .cons r t => by
    obtain ⟨a, b⟩ := kv_vals t
    exact ⟨by rw [List.map_cons, List.map_cons, r.1, a], .cons r.2 b⟩
end

section
variable {X : Cx} {pins : List (Addr × Obj)} {σ : St} {H : Hp} {s : Shared} {κ : Nat → Addr}
/-- the addresses that a reading goes through: tracked ones -/
def TrkAll (H : Hp) (as : List Addr) : Prop := ∀ a ∈ as, H a ≠ none
theorem readsAll_keyD : ∀ (ks : List Key) {us : List Value}, Vals (ks.map kV) us → ReadsAll s.heap us (D.pys (ks.map keyD)) []
  | [], _, .nil => .nil
  | k :: ks, _, .cons r t => by
    have h := readsAll_keyD ks t
    have e : ([] : List Addr) = [] ++ [] := rfl
    rw [e]
    refine .cons ?_ h
    cases k with
    | inl i => obtain ⟨t, rfl⟩ := r; exact .int i t
    | inr x => obtain ⟨t, rfl⟩ := r; exact .str x t
theorem dT_split (I : Inv X pins σ H s) : ∀ {kvs : List (List Key × V)} {xs : List (List Key × Addr × Value)},
    Paired (fun (p : List Key × V) (q : List Key × Addr × Value) => p.1 = q.1 ∧ H q.2.1 = some (.tup (p.1.map kV)) ∧ RelV p.2 q.2.2) kvs xs →
    (∃ as, ReadsAll s.heap (xs.map fun x => Value.ref x.2.1) (D.pys (kvs.map fun p => .tup (p.1.map keyD))) as ∧ as = []) ∧ Vals (kvs.map (·.2)) (xs.map (·.2.2))
  | _, _, .nil => ⟨⟨_, .nil, rfl⟩, .nil⟩
  | _, _, .cons (a := p) (b := q) r t => by
    obtain ⟨⟨as, h1, e1⟩, h2⟩ := dT_split I t
    obtain ⟨e, ht, rv⟩ := r
    obtain ⟨its, v, ⟨o, g1, g2, n, g3⟩, _⟩ := Rd.tupAt I (.of ht)
    refine ⟨⟨[] ++ as, .cons (.tuple g1 g2 g3 (by simpa using readsAll_keyD p.1 v)) h1, by rw [e1]; rfl⟩, .cons rv h2⟩
mutual
/-- what holds d reads as the library's data -/
theorem Rep.reads {F : Addr → Prop} (I : Inv X pins σ H s) : ∀ (d : D) (v : V) (u : Value), d.noIns = true → Rep κ F H d v → RelV v u → ∃ as, Reads s.heap u d.py as ∧ (d.noLst = true → sysModules ∉ as)
  | .non, _, _, _, h, r => by rw [show _ = V.non from h] at r; cases r; exact ⟨[], .none, by simp⟩
  | .bl b, _, _, _, h, r => by rw [show _ = V.bl b from h] at r; cases r; exact ⟨[], .bool b, by simp⟩
  | .int i, _, _, _, h, r => by rw [show _ = V.int i from h] at r; obtain ⟨t, rfl⟩ := r; exact ⟨[], .int i t, by simp⟩
  | .str x, _, _, _, h, r => by rw [show _ = V.str x from h] at r; obtain ⟨t, rfl⟩ := r; exact ⟨[], .str x t, by simp⟩
  | .tup ds, _, _, n, h, r => by
    obtain ⟨a, vs, rfl, _, rd, q⟩ := h
    cases r
    obtain ⟨its, rv, ⟨o, e1, e2, m, e3⟩, _⟩ := Rd.tupAt I rd
    obtain ⟨as, k, ns⟩ := Reps.reads I ds vs its n q rv
    exact ⟨as, .tuple e1 e2 e3 (by simpa using k), ns⟩
  | .lst ds, _, _, n, h, r => by
    obtain ⟨a, vs, rfl, _, rd, q⟩ := h
    cases r
    obtain ⟨its, m, rv, e1, _⟩ := Rd.lstAt I rd
    obtain ⟨as, k, ns⟩ := Reps.reads I ds vs its n q rv
    exact ⟨a :: as, .list e1 rfl rfl (by simpa using k), fun z => nomatch z⟩
  | .dct ks ds, _, _, n, h, r => by
    obtain ⟨a, vs, rfl, _, q, hk⟩ := h
    cases r
    rw [D.noIns, Bool.and_eq_true, Bool.and_eq_true] at n
    have nl : ks.length = ds.length := by simpa using n.2
    have lp : ∀ xs : List D, (D.pys xs).length = xs.length := fun xs => by rw [D.pys_map, List.length_map]
    rcases hk with ⟨kvs, ha, rfl, rfl⟩ | ⟨kvs, ha, rfl, rfl⟩
    · obtain ⟨_, hsy, xs, kv, o, es, ep, e1, ⟨e2, _, _⟩, e3, _, pr, _⟩ := I.hok a _ ha
      obtain ⟨c1, c2⟩ := kv_vals kv
      obtain ⟨p1, p2⟩ := pairs_keys pr
      obtain ⟨bs, k, ns⟩ := Reps.reads I ds _ _ n.1.2 q c2
      have kk : ReadsAll s.heap (es.toList.map (·.key)) (D.pys (kvs.map fun p => keyD p.1)) [] := by
        have e : (kvs.map fun p => keyD p.1) = (xs.map (·.1)).map keyD := by rw [← c1, List.map_map]; rfl
        rw [e]
        refine readsAll_keyD _ ?_
        rw [List.map_map]
        exact p1
      refine ⟨a :: [] ++ bs, ?_, ?_⟩
      · rw [D.py]
        refine .dict e1 e2 e3 ?_ ?_
        · rw [List.map_fst_zip (by rw [lp, lp, nl]; exact Nat.le_refl _)]
          exact kk
        · rw [List.map_snd_zip (by rw [lp, lp, nl]; exact Nat.le_refl _), p2]
          exact k
      · intro z hm
        rw [D.noLst, Bool.and_eq_true] at z
        rcases List.mem_cons.mp hm with e | hm
        · rw [← e] at hsy; simp at hsy
        · exact ns z.2 hm
    · obtain ⟨_, hsy, xs, kv, o, es, ep, e1, ⟨e2, _, _⟩, e3, pr, _⟩ := I.hok a _ ha
      obtain ⟨⟨as, c1, ea⟩, c2⟩ := dT_split I kv
      subst ea
      obtain ⟨bs, k, ns⟩ := Reps.reads I ds _ _ n.1.2 q c2
      have ek : es.toList.map (·.key) = xs.map fun x => Value.ref x.2.1 := by rw [pr, List.map_map]; rfl
      have ev : es.toList.map (·.val) = xs.map (·.2.2) := by rw [pr, List.map_map]; rfl
      refine ⟨a :: [] ++ bs, ?_, ?_⟩
      · rw [D.py]
        refine .dict e1 e2 e3 ?_ ?_
        · rw [List.map_fst_zip (by rw [lp, lp, nl]; exact Nat.le_refl _), ek]
          exact c1
        · rw [List.map_snd_zip (by rw [lp, lp, nl]; exact Nat.le_refl _), ev]
          exact k
      · intro z hm
        rw [D.noLst, Bool.and_eq_true] at z
        rcases List.mem_cons.mp hm with e | hm
        · rw [← e] at hsy; simp at hsy
        · exact ns z.2 hm
  | .ins _ _ _, _, _, n, _, _ => nomatch n
theorem Reps.reads {F : Addr → Prop} (I : Inv X pins σ H s) : ∀ (ds : List D) (vs : List V) (us : List Value), D.noInss ds = true → Reps κ F H ds vs → Vals vs us → ∃ as, ReadsAll s.heap us (D.pys ds) as ∧ (D.noLsts ds = true → sysModules ∉ as)
  | [], _, _, _, h, r => by rw [show _ = ([] : List V) from h] at r; cases r; exact ⟨[], .nil, by simp⟩
  | d :: ds, _, _, n, h, r => by
    obtain ⟨v, rest, rfl, h1, h2⟩ := h
    rw [D.noInss, Bool.and_eq_true] at n
    cases r with
    | cons r t =>
      obtain ⟨as, k1, n1⟩ := Rep.reads I d v _ n.1 h1 r
      obtain ⟨bs, k2, n2⟩ := Reps.reads I ds rest _ n.2 h2 t
      exact ⟨as ++ bs, .cons k1 k2, fun z hm => by
        rw [D.noLsts, Bool.and_eq_true] at z
        exact (List.mem_append.mp hm).elim (n1 z.1) (n2 z.2)⟩
end
/-- an object at hand: frozen, or one that may change -/
theorem Own.reads {F : Addr → Prop} (I : Inv X pins σ H s) {a : Addr} {d : D} (n : d.noIns = true) (h : Own κ F H a d) : ∃ as, Reads s.heap (.ref a) d.py as ∧ (d.noLst = true → sysModules ∉ as) :=
  Rep.reads I d (.ref a) (.ref a) n h.rep rfl
end
end JM

namespace JM
open PySem PySem.Spec L2

/-! ### slots, results -/
/-- a slot: nothing yet; data; a parameter's object that was frozen; an object that may change (a parameter's; locked by a walk) -/
inductive SV where
  | un | pu (d : D) | pf (d : D) | ob (par lk : Bool) (d : D)
  deriving Inhabited
abbrev Slots := List SV
/-- a value: data; a new object of no one's; what stands in a slot -/
inductive RV where
  | pu (d : D) | fr (d : D) | nm (i : Nat)
/-- an exception: its class's number, its own fields -/
structure Exc where
  c : Nat
  ns : List Str
  vs : List D
inductive Res (α : Type) where
  | ok (a : α) (ρ : Slots) | rai (x : Exc) (ρ : Slots) | bad
inductive SRes where
  | nx (ρ : Slots) | br (ρ : Slots) | ct (ρ : Slots) | rt (r : RV) (ρ : Slots) | rai (x : Exc) (ρ : Slots) | bad
/-- a def's end: what it hands back, its parameters' slots -/
inductive FRes where
  | ret (r : RV) (outs : List SV) | rai (x : Exc) (outs : List SV) | bad
abbrev Oracle := Nat → List SV → FRes

def SV.isPar : SV → Bool
  | .pf _ => true
  | .ob true _ _ => true
  | _ => false
def SV.cont : SV → Option D
  | .un => none
  | .pu d => some d
  | .pf d => some d
  | .ob _ _ d => some d
def RV.cont (ρ : Slots) : RV → Option D
  | .pu d => some d
  | .fr d => some d
  | .nm i => (ρ[i]?).bind SV.cont
/-- what is stored elsewhere freezes -/
def RV.frz (ρ : Slots) : RV → Option (D × Slots)
  | .pu d => some (d, ρ)
  | .fr d => some (d, ρ)
  | .nm i => match ρ[i]? with
    | some (.pu d) => some (d, ρ)
    | some (.pf d) => some (d, ρ)
    | some (.ob false false d) => some (d, ρ.set i (.pu d))
    | some (.ob true false d) => some (d, ρ.set i (.pf d))
    | _ => none

section
variable (κ : Nat → Addr) (F : Addr → Prop)
def OwnS (σ : L2.St) (ρ : Slots) (a : Addr) : Prop := ∃ (i : Nat) (p l : Bool) (d : D), ρ[i]? = some (.ob p l d) ∧ σ[i]? = some (some (.ref a))
def SlOk (H : Hp) (v : Option V) : SV → Prop
  | .un => True
  | .pu d => ∃ w, v = some w ∧ Rep κ F H d w
  | .pf d => ∃ w, v = some w ∧ Rep κ F H d w
  | .ob _ _ d => ∃ a, v = some (.ref a) ∧ ¬ F a ∧ Own κ F H a d
structure EnvOk (σ : L2.St) (H : Hp) (ρ : Slots) : Prop where
  len : ρ.length = σ.length
  trk : ∀ a : Addr, F a → H a ≠ none
  sl : ∀ (i : Nat) (sv : SV), ρ[i]? = some sv → ∃ v, σ[i]? = some v ∧ SlOk κ F H v sv
  one : ∀ (i j : Nat) (p l : Bool) (d : D) (p' l' : Bool) (d' : D) (a : Addr), ρ[i]? = some (.ob p l d) → ρ[j]? = some (.ob p' l' d') → σ[i]? = some (some (.ref a)) → σ[j]? = some (some (.ref a)) → i = j
/-- v is the value r (H₀: the heap ahead of the evaluation) -/
def RRep (σ : L2.St) (H₀ H : Hp) (ρ : Slots) (v : V) : RV → Prop
  | .pu d => Rep κ F H d v
  | .fr d => ∃ a, v = .ref a ∧ ¬ F a ∧ ¬ OwnS σ ρ a ∧ H₀ a = none ∧ Own κ F H a d
  | .nm i => σ[i]? = some (some v)
/-- v is read as d -/
def Bor (H : Hp) (d : D) (v : V) : Prop := Rep κ F H d v ∨ ∃ a, v = .ref a ∧ Own κ F H a d
def XRep (H : Hp) (x : Exc) (c : Value) (o : Option Addr) : Prop :=
  c = .ref (κ x.c) ∧ (x.ns = [] ∨ ∃ dd gs, o = some dd ∧ H dd = some (.xd gs) ∧ x.ns = gs.map (·.1) ∧ Reps κ F H x.vs (gs.map (·.2)))
end
/-- from one state to a later one -/
structure Stp (F : Addr → Prop) (σ : L2.St) (H : Hp) (ρ : Slots) (F' : Addr → Prop) (σ' : L2.St) (H' : Hp) (ρ' : Slots) : Prop where
  f : ∀ a, F a → F' a
  n : ∀ a, F' a → F a ∨ OwnS σ ρ a ∨ H a = none
  o : ∀ a, OwnS σ' ρ' a → OwnS σ ρ a ∨ H a = none
  h : ∀ a u, H a = some u → ¬ OwnS σ ρ a → H' a = some u
  t : ∀ a, H a ≠ none → H' a ≠ none
  par : ∀ (i : Nat) (sv : SV), ρ[i]? = some sv → sv.isPar = true → (∃ sv', ρ'[i]? = some sv' ∧ sv'.isPar = true) ∧ σ'[i]? = σ[i]?

section
variable {κ : Nat → Addr} {F F' F1 F2 : Addr → Prop} {σ σ' σ1 σ2 : L2.St} {H H' H1 H2 H₀ : Hp} {ρ ρ' ρ1 ρ2 : Slots}
theorem Stp.refl : Stp F σ H ρ F σ H ρ := ⟨fun _ h => h, fun _ h => .inl h, fun _ h => .inl h, fun _ _ h _ => h, fun _ h => h, fun i sv h p => ⟨⟨sv, h, p⟩, rfl⟩⟩
theorem Stp.trans (a : Stp F σ H ρ F1 σ1 H1 ρ1) (b : Stp F1 σ1 H1 ρ1 F2 σ2 H2 ρ2) : Stp F σ H ρ F2 σ2 H2 ρ2 where
  f := fun x h => b.f x (a.f x h)
  n := fun x h => by
    rcases b.n x h with q | q | q
    · exact a.n x q
    · rcases a.o x q with r | r
      · exact .inr (.inl r)
      · exact .inr (.inr r)
    · refine .inr (.inr ?_)
      by_cases e : H x = none
      · exact e
      · exact absurd q (a.t x e)
  o := fun x h => by
    rcases b.o x h with q | q
    · exact a.o x q
    · refine .inr ?_
      by_cases e : H x = none
      · exact e
      · exact absurd q (a.t x e)
  h := fun x u h hn => b.h x u (a.h x u h hn) fun q => by
    rcases a.o x q with r | r
    · exact hn r
    · rw [h] at r; cases r
  t := fun x h => b.t x (a.t x h)
  par := fun i sv h p => by
    obtain ⟨⟨sv1, h1, p1⟩, e1⟩ := a.par i sv h p
    obtain ⟨e2, e3⟩ := b.par i sv1 h1 p1
    exact ⟨e2, e3.trans e1⟩
theorem Stp.none_of (s : Stp F σ H ρ F' σ' H' ρ') {a : Addr} (h : H' a = none) : H a = none := by
  by_cases e : H a = none
  · exact e
  · exact absurd h (s.t a e)

theorem EnvOk.ownF (e : EnvOk κ F σ H ρ) {a : Addr} (h : OwnS σ ρ a) : ¬ F a ∧ H a ≠ none := by
  obtain ⟨i, p, l, d, h1, h2⟩ := h
  obtain ⟨v, h3, b, h4, h5, h6⟩ := e.sl i _ h1
  rw [h2] at h3; cases h3
  cases h4
  obtain ⟨u, hu⟩ := h6.some
  exact ⟨h5, by rw [hu]; simp⟩
/-- frozen data stays -/
theorem Stp.rep (s : Stp F σ H ρ F' σ' H' ρ') (e : EnvOk κ F σ H ρ) {d : D} {v : V} (r : Rep κ F H d v) : Rep κ F' H' d v :=
  Rep.mono s.f (fun a u fa hu => s.h a u hu fun q => (e.ownF q).1 fa) d v r
theorem Stp.reps (s : Stp F σ H ρ F' σ' H' ρ') (e : EnvOk κ F σ H ρ) {ds : List D} {vs : List V} (r : Reps κ F H ds vs) : Reps κ F' H' ds vs :=
  Reps.mono s.f (fun a u fa hu => s.h a u hu fun q => (e.ownF q).1 fa) ds vs r
/-- an object of no slot stays as it is -/
theorem Stp.own (s : Stp F σ H ρ F' σ' H' ρ') (e : EnvOk κ F σ H ρ) {a : Addr} {d : D} (nf : ¬ F a) (no : ¬ OwnS σ ρ a) (o : Own κ F H a d) : ¬ F' a ∧ ¬ OwnS σ' ρ' a ∧ Own κ F' H' a d := by
  obtain ⟨u, hu⟩ := o.some
  refine ⟨fun q => ?_, fun q => ?_, Own.mono s.f (fun b u fb hb => s.h b u hb fun q => (e.ownF q).1 fb) (fun u hu => s.h a u hu no) o⟩
  · rcases s.n a q with r | r | r
    · exact nf r
    · exact no r
    · rw [hu] at r; cases r
  · rcases s.o a q with r | r
    · exact no r
    · rw [hu] at r; cases r
theorem Stp.rrep (s : Stp F σ H ρ F' σ H' ρ') (e : EnvOk κ F σ H ρ) {v : V} {r : RV} (h : RRep κ F σ H₀ H ρ v r) : RRep κ F' σ H₀ H' ρ' v r := by
  cases r with
  | pu d => exact s.rep e h
  | fr d =>
    obtain ⟨a, e1, h1, h2, h3, h4⟩ := h
    obtain ⟨k1, k2, k3⟩ := s.own e h1 h2 h4
    exact ⟨a, e1, k1, k2, h3, k3⟩
  | nm i => exact h
theorem RRep.early {H₁ : Hp} (k : ∀ a, H₁ a = none → H₀ a = none) {v : V} {r : RV} (h : RRep κ F σ H₁ H ρ v r) : RRep κ F σ H₀ H ρ v r := by
  cases r with
  | pu d => exact h
  | fr d =>
    obtain ⟨a, e1, h1, h2, h3, h4⟩ := h
    exact ⟨a, e1, h1, h2, k a h3, h4⟩
  | nm i => exact h
theorem RRep.bor (e : EnvOk κ F σ H ρ) {v : V} {r : RV} {d : D} (h : RRep κ F σ H₀ H ρ v r) (hc : r.cont ρ = some d) : Bor κ F H d v := by
  cases r with
  | pu d' => cases hc; exact .inl h
  | fr d' =>
    cases hc
    obtain ⟨a, e1, _, _, _, h4⟩ := h
    exact .inr ⟨a, e1, h4⟩
  | nm i =>
    have hc : (ρ[i]?).bind SV.cont = some d := hc
    cases hs : ρ[i]? with
    | none => rw [hs] at hc; cases hc
    | some sv =>
      rw [hs] at hc
      obtain ⟨w, h1, h2⟩ := e.sl i sv hs
      have h' : σ[i]? = some (some v) := h
      rw [h'] at h1; cases h1
      cases sv with
      | un => cases hc
      | pu d' => cases hc; obtain ⟨w, e1, q⟩ := h2; cases e1; exact .inl q
      | pf d' => cases hc; obtain ⟨w, e1, q⟩ := h2; cases e1; exact .inl q
      | ob p l d' => cases hc; obtain ⟨a, e1, _, q⟩ := h2; cases e1; exact .inr ⟨a, rfl, q⟩
theorem Bor.rep {d : D} {v : V} (h : Bor κ F H d v) : ∃ G : Addr → Prop, Rep κ G H d v := by
  rcases h with h | ⟨a, rfl, h⟩
  · exact ⟨F, h⟩
  · exact ⟨_, h.rep⟩

/-- the heap and what is frozen grow; no slot's object changes -/
theorem EnvOk.grow (e : EnvOk κ F σ H ρ) (hF : ∀ a, F a → F' a) (hn : ∀ a, F' a → F a ∨ ¬ OwnS σ ρ a) (hH : ∀ a u, (F a ∨ OwnS σ ρ a) → H a = some u → H' a = some u) (ht : ∀ a, F' a → H' a ≠ none) : EnvOk κ F' σ H' ρ := by
  refine ⟨e.len, ht, fun i sv h => ?_, e.one⟩
  obtain ⟨v, h1, h2⟩ := e.sl i sv h
  refine ⟨v, h1, ?_⟩
  have m : ∀ a u, F a → H a = some u → H' a = some u := fun a u q => hH a u (.inl q)
  cases sv with
  | un => trivial
  | pu d => obtain ⟨w, e1, q⟩ := h2; exact ⟨w, e1, Rep.mono hF m d w q⟩
  | pf d => obtain ⟨w, e1, q⟩ := h2; exact ⟨w, e1, Rep.mono hF m d w q⟩
  | ob p l d =>
    obtain ⟨a, e1, nf, q⟩ := h2
    have own : OwnS σ ρ a := ⟨i, p, l, d, h, by rw [h1, e1]⟩
    refine ⟨a, e1, fun z => ?_, Own.mono hF m (fun u hu => hH a u (.inr own) hu) q⟩
    rcases hn a z with r | r
    · exact nf r
    · exact r own
theorem trk_laid (t : ∀ a : Addr, F a → H a ≠ none) {p : Addr} {o : HO} (hp : H p = none) : ∀ a : Addr, F a → upd H p o a ≠ none := fun a h => by
  by_cases e : a = p
  · subst e; rw [upd_same]; simp
  · rw [upd_ne e]; exact t a h
theorem trk_laidF (t : ∀ a : Addr, F a → H a ≠ none) {p : Addr} {o : HO} (hp : H p = none) : ∀ a : Addr, (F a ∨ a = p) → upd H p o a ≠ none := fun a h => by
  by_cases e : a = p
  · subst e; rw [upd_same]; simp
  · rw [upd_ne e]; exact t a (h.elim id fun z => absurd z e)
/-- an object is laid at a new address -/
theorem EnvOk.laid (e : EnvOk κ F σ H ρ) {p : Addr} {o : HO} (hp : H p = none) : EnvOk κ F σ (upd H p o) ρ :=
  e.grow (fun _ h => h) (fun _ h => .inl h) (fun a u _ h => by rw [upd_ne (ne_of_none h hp)]; exact h) (trk_laid e.trk hp)
theorem EnvOk.laidF (e : EnvOk κ F σ H ρ) {p : Addr} {o : HO} (hp : H p = none) : EnvOk κ (fun b => F b ∨ b = p) σ (upd H p o) ρ := by
  refine e.grow (fun _ h => .inl h) (fun a h => ?_) (fun a u _ h => by rw [upd_ne (ne_of_none h hp)]; exact h) (trk_laidF e.trk hp)
  rcases h with h | rfl
  · exact .inl h
  · exact .inr fun q => (e.ownF q).2 hp
theorem Stp.laid {p : Addr} {o : HO} (hp : H p = none) : Stp F σ H ρ F σ (upd H p o) ρ :=
  ⟨fun _ h => h, fun _ h => .inl h, fun _ h => .inl h, fun a u h _ => by rw [upd_ne (ne_of_none h hp)]; exact h,
   fun a h => by
    by_cases e : a = p
    · subst e; rw [upd_same]; simp
    · rw [upd_ne e]; exact h, fun i sv h q => ⟨⟨sv, h, q⟩, rfl⟩⟩
theorem Stp.laidF {p : Addr} {o : HO} (hp : H p = none) : Stp F σ H ρ (fun b => F b ∨ b = p) σ (upd H p o) ρ :=
  ⟨fun _ h => .inl h, fun a h => by
    rcases h with h | rfl
    · exact .inl h
    · exact .inr (.inr hp), fun _ h => .inl h, fun a u h _ => by rw [upd_ne (ne_of_none h hp)]; exact h,
   fun a h => by
    by_cases e : a = p
    · subst e; rw [upd_same]; simp
    · rw [upd_ne e]; exact h, fun i sv h q => ⟨⟨sv, h, q⟩, rfl⟩⟩

/-- a value that is stored elsewhere freezes -/
theorem freeze (s : Stp F σ H ρ F1 σ H1 ρ1) (e : EnvOk κ F1 σ H1 ρ1) {v : V} {r : RV} {d : D} (h : RRep κ F1 σ H H1 ρ1 v r) (hf : r.frz ρ1 = some (d, ρ2)) :
    ∃ F2, Stp F σ H ρ F2 σ H1 ρ2 ∧ EnvOk κ F2 σ H1 ρ2 ∧ Rep κ F2 H1 d v ∧ (∀ a, F1 a → F2 a) ∧ (∀ a, F2 a → F1 a ∨ v = .ref a) ∧ (∀ a, OwnS σ ρ2 a → OwnS σ ρ1 a ∧ v ≠ .ref a) := by
  cases r with
  | pu d' =>
    have hf : some (d', ρ1) = some (d, ρ2) := hf
    cases hf
    refine ⟨F1, s, e, h, fun _ q => q, fun _ q => .inl q, fun a q => ⟨q, ?_⟩⟩
    rintro rfl
    have nf := (e.ownF q).1
    cases d with
    | non => cases h
    | bl _ => cases h
    | int _ => cases h
    | str _ => cases h
    | tup _ => obtain ⟨b, vs, eb, fb, _⟩ := h; cases eb; exact nf fb
    | lst _ => obtain ⟨b, vs, eb, fb, _⟩ := h; cases eb; exact nf fb
    | dct _ _ => obtain ⟨b, vs, eb, fb, _⟩ := h; cases eb; exact nf fb
    | ins _ _ _ => obtain ⟨b, dx, fs, vs, eb, fb, _⟩ := h; cases eb; exact nf fb
  | fr d' =>
    have hf : some (d', ρ1) = some (d, ρ2) := hf
    cases hf
    obtain ⟨a, rfl, h1, h2, h3, h4⟩ := h
    refine ⟨fun b => F1 b ∨ b = a, ⟨fun x q => .inl (s.f x q), fun x q => ?_, s.o, s.h, s.t, s.par⟩, e.grow (fun _ q => .inl q) (fun x q => ?_) (fun _ _ _ q => q) (fun x q => ?_), h4.rep, fun _ q => .inl q, fun x q => ?_, fun x q => ⟨q, ?_⟩⟩
    · rcases q with q | rfl
      · exact s.n x q
      · exact .inr (.inr h3)
    · rcases q with q | rfl
      · exact .inl q
      · exact .inr h2
    · rcases q with q | rfl
      · exact e.trk x q
      · obtain ⟨u, hu⟩ := h4.some
        rw [hu]; simp
    · rcases q with q | rfl
      · exact .inl q
      · exact .inr rfl
    · rintro z
      cases z
      exact h2 q
  | nm i =>
    have h : σ[i]? = some (some v) := h
    -- a slot's own object
    have key : ∀ (p : Bool) (sv : SV), ρ1[i]? = some (.ob p false d) → (sv = .pu d ∨ sv = .pf d) → (p = true → sv.isPar = true) → ρ2 = ρ1.set i sv →
        ∃ F2, Stp F σ H ρ F2 σ H1 ρ2 ∧ EnvOk κ F2 σ H1 ρ2 ∧ Rep κ F2 H1 d v ∧ (∀ a, F1 a → F2 a) ∧ (∀ a, F2 a → F1 a ∨ v = .ref a) ∧ (∀ a, OwnS σ ρ2 a → OwnS σ ρ1 a ∧ v ≠ .ref a) := by
      intro p sv hi hsv hpar er
      subst er
      obtain ⟨w, h1, a, h2, h3, h4⟩ := e.sl i _ hi
      rw [h] at h1; cases h1; cases h2
      have own : OwnS σ ρ1 a := ⟨i, p, false, d, hi, h⟩
      have il : i < ρ1.length := (List.getElem?_eq_some_iff.mp hi).1
      have notob : ∀ p l d', sv ≠ .ob p l d' := fun p l d' z => by rcases hsv with r | r <;> rw [r] at z <;> cases z
      have sub : ∀ x, OwnS σ (ρ1.set i sv) x → OwnS σ ρ1 x ∧ x ≠ a := fun x ⟨j, p', l', d', q1, q2⟩ => by
        by_cases hj : j = i
        · subst hj
          rw [List.getElem?_set_self il] at q1
          cases q1
          exact absurd rfl (notob p' l' d')
        · rw [List.getElem?_set_ne (Ne.symm hj)] at q1
          refine ⟨⟨j, p', l', d', q1, q2⟩, fun ex => hj ?_⟩
          subst ex
          exact e.one j i _ _ _ _ _ _ x q1 hi q2 h
      have stp1 : Stp F σ H ρ (fun b => F1 b ∨ b = a) σ H1 (ρ1.set i sv) := by
        refine ⟨fun x q => .inl (s.f x q), fun x q => ?_, fun x q => s.o x (sub x q).1, s.h, s.t, fun j sj q pq => ?_⟩
        · rcases q with q | rfl
          · exact s.n x q
          · rcases s.o x own with r | r
            · exact .inr (.inl r)
            · exact .inr (.inr r)
        · obtain ⟨⟨sj', q1, pq1⟩, q2⟩ := s.par j sj q pq
          refine ⟨?_, q2⟩
          by_cases hj : j = i
          · subst hj
            rw [hi] at q1; cases q1
            refine ⟨sv, List.getElem?_set_self il, hpar ?_⟩
            cases p with
            | true => rfl
            | false => exact absurd pq1 (by simp [SV.isPar])
          · exact ⟨sj', by rw [List.getElem?_set_ne (Ne.symm hj)]; exact q1, pq1⟩
      have env1 : EnvOk κ (fun b => F1 b ∨ b = a) σ H1 (ρ1.set i sv) := by
        have hrep : Rep κ (fun b => F1 b ∨ b = a) H1 d (.ref a) := h4.rep
        refine ⟨by rw [List.length_set]; exact e.len, fun x q => ?_, fun j sj q => ?_, fun j k p1 l1 d1 p2 l2 d2 x q1 q2 q3 q4 => ?_⟩
        · rcases q with q | rfl
          · exact e.trk x q
          · obtain ⟨u, hu⟩ := h4.some
            rw [hu]; simp
        · by_cases hj : j = i
          · subst hj
            rw [List.getElem?_set_self il] at q
            cases q
            refine ⟨_, h, ?_⟩
            rcases hsv with r | r <;> rw [r] <;> exact ⟨_, rfl, hrep⟩
          · rw [List.getElem?_set_ne (Ne.symm hj)] at q
            obtain ⟨w, k1, k2⟩ := e.sl j sj q
            refine ⟨w, k1, ?_⟩
            have m : ∀ b u, F1 b → H1 b = some u → H1 b = some u := fun _ _ _ z => z
            cases sj with
            | un => trivial
            | pu d' => obtain ⟨w', e1, z⟩ := k2; exact ⟨w', e1, Rep.mono (fun _ y => .inl y) m _ _ z⟩
            | pf d' => obtain ⟨w', e1, z⟩ := k2; exact ⟨w', e1, Rep.mono (fun _ y => .inl y) m _ _ z⟩
            | ob p' l' d' =>
              obtain ⟨b, e1, nf, z⟩ := k2
              refine ⟨b, e1, fun y => ?_, Own.mono (fun _ y => .inl y) m (fun _ y => y) z⟩
              rcases y with y | rfl
              · exact nf y
              · exact hj (e.one j i _ _ _ _ _ _ b q hi (by rw [k1, e1]) h)
        · have f1 : ρ1[j]? = some (.ob p1 l1 d1) := by
            by_cases hj : j = i
            · subst hj; rw [List.getElem?_set_self il] at q1; cases q1; exact absurd rfl (notob p1 l1 d1)
            · rw [List.getElem?_set_ne (Ne.symm hj)] at q1; exact q1
          have f2 : ρ1[k]? = some (.ob p2 l2 d2) := by
            by_cases hj : k = i
            · subst hj; rw [List.getElem?_set_self il] at q2; cases q2; exact absurd rfl (notob p2 l2 d2)
            · rw [List.getElem?_set_ne (Ne.symm hj)] at q2; exact q2
          exact e.one j k _ _ _ _ _ _ x f1 f2 q3 q4
      refine ⟨_, stp1, env1, h4.rep, fun _ q => .inl q, fun x q => ?_, fun x q => ⟨(sub x q).1, ?_⟩⟩
      · rcases q with q | rfl
        · exact .inl q
        · exact .inr rfl
      · rintro z
        cases z
        exact (sub _ q).2 rfl
    -- data in a slot
    have key2 : ∀ sv, ρ1[i]? = some sv → (sv = .pu d ∨ sv = .pf d) → ρ2 = ρ1 →
        ∃ F2, Stp F σ H ρ F2 σ H1 ρ2 ∧ EnvOk κ F2 σ H1 ρ2 ∧ Rep κ F2 H1 d v ∧ (∀ a, F1 a → F2 a) ∧ (∀ a, F2 a → F1 a ∨ v = .ref a) ∧ (∀ a, OwnS σ ρ2 a → OwnS σ ρ1 a ∧ v ≠ .ref a) := by
      intro sv hi hsv er
      subst er
      obtain ⟨w, h1, h2⟩ := e.sl i _ hi
      rw [h] at h1; cases h1
      have hr : Rep κ F1 H1 d v := by
        rcases hsv with r | r <;> subst r <;> (obtain ⟨w, e1, q⟩ := h2; cases e1; exact q)
      refine ⟨F1, s, e, hr, fun _ q => q, fun _ q => .inl q, fun a ⟨j, p', l', d', q1, q2⟩ => ⟨⟨j, p', l', d', q1, q2⟩, ?_⟩⟩
      rintro rfl
      have nf := (e.ownF ⟨j, p', l', d', q1, q2⟩).1
      cases d with
      | non => cases hr
      | bl _ => cases hr
      | int _ => cases hr
      | str _ => cases hr
      | tup _ => obtain ⟨b, vs, eb, fb, _⟩ := hr; cases eb; exact nf fb
      | lst _ => obtain ⟨b, vs, eb, fb, _⟩ := hr; cases eb; exact nf fb
      | dct _ _ => obtain ⟨b, vs, eb, fb, _⟩ := hr; cases eb; exact nf fb
      | ins _ _ _ => obtain ⟨b, dx, fs, vs, eb, fb, _⟩ := hr; cases eb; exact nf fb
    cases hs : ρ1[i]? with
    | none => simp [RV.frz, hs] at hf
    | some sv =>
      cases sv with
      | un => simp [RV.frz, hs] at hf
      | pu d' =>
        simp only [RV.frz, hs, Option.some.injEq, Prod.mk.injEq] at hf
        obtain ⟨rfl, rfl⟩ := hf
        exact key2 _ hs (.inl rfl) rfl
      | pf d' =>
        simp only [RV.frz, hs, Option.some.injEq, Prod.mk.injEq] at hf
        obtain ⟨rfl, rfl⟩ := hf
        exact key2 _ hs (.inr rfl) rfl
      | ob p l d' =>
        cases l with
        | true => cases p <;> simp [RV.frz, hs] at hf
        | false =>
          cases p with
          | false =>
            simp only [RV.frz, hs, Option.some.injEq, Prod.mk.injEq] at hf
            obtain ⟨rfl, rfl⟩ := hf
            exact key false _ hs (.inl rfl) (fun z => nomatch z) rfl
          | true =>
            simp only [RV.frz, hs, Option.some.injEq, Prod.mk.injEq] at hf
            obtain ⟨rfl, rfl⟩ := hf
            exact key true _ hs (.inr rfl) (fun _ => rfl) rfl

/-- a slot's object changes -/
theorem change (s : Stp F σ H ρ F1 σ H1 ρ1) (e : EnvOk κ F1 σ H1 ρ1) {i : Nat} {a : Addr} {p l : Bool} {d d' : D} {u : HO} (hi : ρ1[i]? = some (.ob p l d)) (hv : σ[i]? = some (some (.ref a)))
    (hn : Own κ F1 (upd H1 a u) a d') : Stp F σ H ρ F1 σ (upd H1 a u) (ρ1.set i (.ob p l d')) ∧ EnvOk κ F1 σ (upd H1 a u) (ρ1.set i (.ob p l d')) := by
  have own : OwnS σ ρ1 a := ⟨i, p, l, d, hi, hv⟩
  have il : i < ρ1.length := (List.getElem?_eq_some_iff.mp hi).1
  have back : ∀ x, OwnS σ (ρ1.set i (.ob p l d')) x → OwnS σ ρ1 x := fun x ⟨j, p', l', d'', q1, q2⟩ => by
    by_cases hj : j = i
    · subst hj; rw [hv] at q2; cases q2; exact own
    · rw [List.getElem?_set_ne (Ne.symm hj)] at q1; exact ⟨j, p', l', d'', q1, q2⟩
  have ho : OwnS σ ρ a ∨ H a = none := s.o a own
  refine ⟨⟨s.f, s.n, fun x q => s.o x (back x q), fun x w hw nw => ?_, fun x hx => ?_, fun j sj q pq => ?_⟩, by rw [List.length_set]; exact e.len, fun x hx => ?_, fun j sj q => ?_, fun j k p1 l1 d1 p2 l2 d2 x q1 q2 q3 q4 => ?_⟩
  · have hxa : x ≠ a := by
      rintro rfl
      rcases ho with r | r
      · exact nw r
      · rw [hw] at r; cases r
    rw [upd_ne hxa]; exact s.h x w hw nw
  · by_cases hxa : x = a
    · subst hxa; rw [upd_same]; simp
    · rw [upd_ne hxa]; exact s.t x hx
  · obtain ⟨⟨sj', q1, pq1⟩, q2⟩ := s.par j sj q pq
    refine ⟨?_, q2⟩
    by_cases hj : j = i
    · subst hj
      rw [hi] at q1; cases q1
      refine ⟨_, List.getElem?_set_self il, ?_⟩
      cases p with
      | true => rfl
      | false => exact absurd pq1 (by simp [SV.isPar])
    · exact ⟨sj', by rw [List.getElem?_set_ne (Ne.symm hj)]; exact q1, pq1⟩
  · by_cases hxa : x = a
    · subst hxa; rw [upd_same]; simp
    · rw [upd_ne hxa]; exact e.trk x hx
  · by_cases hj : j = i
    · subst hj
      rw [List.getElem?_set_self il] at q
      cases q
      exact ⟨_, hv, a, rfl, (e.ownF own).1, hn⟩
    · rw [List.getElem?_set_ne (Ne.symm hj)] at q
      obtain ⟨w, k1, k2⟩ := e.sl j sj q
      refine ⟨w, k1, ?_⟩
      have nfa := (e.ownF own).1
      have m : ∀ b y, F1 b → H1 b = some y → upd H1 a u b = some y := fun b y z hy => by
        have hb : b ≠ a := by
          rintro rfl
          exact nfa z
        rw [upd_ne hb]; exact hy
      cases sj with
      | un => trivial
      | pu d1 => obtain ⟨w', e1, z⟩ := k2; exact ⟨w', e1, Rep.mono (fun _ y => y) m _ _ z⟩
      | pf d1 => obtain ⟨w', e1, z⟩ := k2; exact ⟨w', e1, Rep.mono (fun _ y => y) m _ _ z⟩
      | ob p' l' d1 =>
        obtain ⟨b, e1, nf, z⟩ := k2
        refine ⟨b, e1, nf, Own.mono (fun _ y => y) m (fun y hy => ?_) z⟩
        rw [upd_ne ?_]
        · exact hy
        · rintro rfl
          exact hj (e.one j i _ _ _ _ _ _ b q hi (by rw [k1, e1]) hv)
  · have f : ∀ {m : Nat} {p1 l1 : Bool} {d1 : D}, (ρ1.set i (.ob p l d'))[m]? = some (.ob p1 l1 d1) → ∃ p2 l2 d2, ρ1[m]? = some (.ob p2 l2 d2) := fun {m p1 l1 d1} q => by
      by_cases hj : m = i
      · subst hj; exact ⟨_, _, _, hi⟩
      · rw [List.getElem?_set_ne (Ne.symm hj)] at q; exact ⟨_, _, _, q⟩
    obtain ⟨_, _, _, f1⟩ := f q1
    obtain ⟨_, _, _, f2⟩ := f q2
    exact e.one j k _ _ _ _ _ _ x f1 f2 q3 q4
end
end JM

namespace JM
open PySem PySem.Spec L2

/-! ### operations on data -/
/-- frozen objects are tracked -/
def FTrk (F : Addr → Prop) (H : Hp) : Prop := ∀ a, F a → H a ≠ none
/-- what an operation gives: data, a new object, or it is not served -/
inductive Op where
  | val (d : D) | new (d : D) | bad
/-- the heap grows, nothing that stood changes -/
structure Grow (F : Addr → Prop) (H : Hp) (F' : Addr → Prop) (H' : Hp) : Prop where
  f : ∀ a, F a → F' a
  n : ∀ a, F' a → F a ∨ (H a = none ∧ H' a ≠ none)
  h : ∀ a u, H a = some u → H' a = some u
theorem Grow.refl {F : Addr → Prop} {H : Hp} : Grow F H F H := ⟨fun _ h => h, fun _ h => .inl h, fun _ _ h => h⟩
theorem Grow.laid {F : Addr → Prop} {H : Hp} {p : Addr} {o : HO} (hp : H p = none) : Grow F H F (upd H p o) :=
  ⟨fun _ h => h, fun _ h => .inl h, fun a u h => by rw [upd_ne (ne_of_none h hp)]; exact h⟩
theorem Grow.laidF {F : Addr → Prop} {H : Hp} {p : Addr} {o : HO} (hp : H p = none) : Grow F H (fun b => F b ∨ b = p) (upd H p o) :=
  ⟨fun _ h => .inl h, fun a h => by
    rcases h with h | rfl
    · exact .inl h
    · exact .inr ⟨hp, by rw [upd_same]; simp⟩, fun a u h => by rw [upd_ne (ne_of_none h hp)]; exact h⟩
theorem Grow.trans {F F1 F2 : Addr → Prop} {H H1 H2 : Hp} (a : Grow F H F1 H1) (b : Grow F1 H1 F2 H2) : Grow F H F2 H2 where
  f := fun x h => b.f x (a.f x h)
  n := fun x h => by
    rcases b.n x h with q | ⟨q, q'⟩
    · rcases a.n x q with r | ⟨r, r'⟩
      · exact .inl r
      · refine .inr ⟨r, ?_⟩
        cases e : H1 x with
        | none => exact absurd e r'
        | some u => rw [b.h x u e]; simp
    · cases e : H x with
      | none => exact .inr ⟨rfl, q'⟩
      | some u => rw [a.h x u e] at q; cases q
  h := fun x u h => b.h x u (a.h x u h)
section
variable {κ : Nat → Addr} {F F' F1 : Addr → Prop} {σ : L2.St} {H H' H1 : Hp} {ρ : Slots}
theorem Grow.stp (g : Grow F H F' H') : Stp F σ H ρ F' σ H' ρ :=
  ⟨g.f, fun a h => (g.n a h).elim .inl fun q => .inr (.inr q.1), fun _ h => .inl h, fun a u h _ => g.h a u h, fun a h => by
    cases e : H a with
    | none => exact absurd e h
    | some u => rw [g.h a u e]; simp, fun i sv h p => ⟨⟨sv, h, p⟩, rfl⟩⟩
theorem Grow.env (g : Grow F H F' H') (e : EnvOk κ F σ H ρ) : EnvOk κ F' σ H' ρ :=
  e.grow g.f (fun a h => (g.n a h).elim .inl fun q => .inr fun z => (e.ownF z).2 q.1) (fun a u _ h => g.h a u h) fun a h => (g.n a h).elim (fun q => by
    cases e' : H a with
    | none => exact absurd e' (e.trk a q)
    | some u => rw [g.h a u e']; simp) fun q => q.2
theorem Grow.rep (g : Grow F H F' H') {d : D} {v : V} (h : Rep κ F H d v) : Rep κ F' H' d v := Rep.mono g.f (fun a u _ => g.h a u) d v h
theorem Grow.reps (g : Grow F H F' H') {d : List D} {v : List V} (h : Reps κ F H d v) : Reps κ F' H' d v := Reps.mono g.f (fun a u _ => g.h a u) d v h
end
section
variable (κ : Nat → Addr) (F : Addr → Prop) (H : Hp)
def PostO (o : Op) (Q : VK) : Prop := match o with
  | .val d => ∀ z F' H', Grow F H F' H' → Rep κ F' H' d z → Q z H'
  | .new d => ∀ a F' H', Grow F H F' H' → ¬ F' a → H a = none → Own κ F' H' a d → Q (.ref a) H'
  | .bad => False
def Bors : List D → List V → Prop
  | [], vs => vs = []
  | d :: ds, vs => ∃ v r, vs = v :: r ∧ Bor κ F H d v ∧ Bors ds r
def r1 (g : D → Op) : V → Hp → VK → Prop := fun x H Q => ∃ F d, FTrk F H ∧ Bor κ F H d x ∧ PostO κ F H (g d) Q
def r2 (g : D → D → Op) : R2 := fun x y H Q => ∃ F d e, FTrk F H ∧ Bor κ F H d x ∧ Bor κ F H e y ∧ PostO κ F H (g d e) Q
def rN (g : List D → Op) : List V → Hp → VK → Prop := fun xs H Q => ∃ F ds, FTrk F H ∧ Bors κ F H ds xs ∧ PostO κ F H (g ds) Q
end
section
variable {κ : Nat → Addr} {F F' : Addr → Prop} {H H' : Hp} {Q : VK}
theorem OpR.imp {X : Cx} {f : Value → Value → Sem Value} {r r' : R2} (h : OpR X f r) (k : ∀ x y H Q, r' x y H Q → r x y H Q) : OpR X f r' :=
  fun pins s σ H x y v u Q I rx ry q => h pins s σ H x y v u Q I rx ry (k _ _ _ _ q)
theorem UnR.imp {X : Cx} {f : Value → Sem Value} {r r' : V → Hp → VK → Prop} (h : UnR X f r) (k : ∀ x H Q, r' x H Q → r x H Q) : UnR X f r' :=
  fun pins s σ H x v Q I rx q => h pins s σ H x v Q I rx (k _ _ _ q)
theorem CallR.imp {X : Cx} {f : Value} {r r' : List V → Hp → VK → Prop} (h : CallR X f r) (k : ∀ xs H Q, r' xs H Q → r xs H Q) : CallR X f r' :=
  fun pins s σ H xs us Q I rx q => h pins s σ H xs us Q I rx (k _ _ _ q)
theorem PE.imp {X : Cx} {e : Expr} {t t' : TE} (h : PE X e t) (k : ∀ σ H Q, t' σ H Q → t σ H Q) : PE X e t' := ⟨fun pins s σ H Q I q => h.run pins s σ H Q I (k _ _ _ q)⟩
theorem PT.imp {X : Cx} {e : Expr} {t t' : TT} (h : PT X e t) (k : ∀ σ H Q, t' σ H Q → t σ H Q) : PT X e t' := ⟨fun pins s σ H Q I q => h.run pins s σ H Q I (k _ _ _ q)⟩
theorem PW.imp {X : Cx} {e : Expr} {t t' : TT} (h : PW X e t) (k : ∀ σ H Q, t' σ H Q → t σ H Q) : PW X e t' := ⟨fun wh pins s σ H Q I q => h.run wh pins s σ H Q I (k _ _ _ q)⟩
theorem PA.imp {X : Cx} {e : List Expr} {t t' : TA} (h : PA X e t) (k : ∀ σ H Q, t' σ H Q → t σ H Q) : PA X e t' := ⟨fun pos pins s σ H Q I q => h.run pos pins s σ H Q I (k _ _ _ q)⟩
theorem PS.imp {X : Cx} {e : Stmt} {t t' : TS} (h : PS X e t) (k : ∀ D σ H, t' D σ H → t D σ H) : PS X e t' := ⟨fun pins s σ H D I q => h.run pins s σ H D I (k _ _ _ q)⟩
theorem PSs.imp {X : Cx} {e : List Stmt} {t t' : TS} (h : PSs X e t) (k : ∀ D σ H, t' D σ H → t D σ H) : PSs X e t' := ⟨fun pins s σ H D I q => h.run pins s σ H D I (k _ _ _ q)⟩

/-! reading what is at hand -/
theorem Bor.int {i : Int} {v : V} (h : Bor κ F H (.int i) v) : v = .int i := by
  rcases h with h | ⟨a, _, h⟩
  · exact h
  · exact h.elim
theorem Bor.bl {i : Bool} {v : V} (h : Bor κ F H (.bl i) v) : v = .bl i := by
  rcases h with h | ⟨a, _, h⟩
  · exact h
  · exact h.elim
theorem Bor.str {i : Str} {v : V} (h : Bor κ F H (.str i) v) : v = .str i := by
  rcases h with h | ⟨a, _, h⟩
  · exact h
  · exact h.elim
theorem Bor.non {v : V} (h : Bor κ F H .non v) : v = .non := by
  rcases h with h | ⟨a, _, h⟩
  · exact h
  · exact h.elim
theorem Bor.tup {ds : List D} {v : V} (h : Bor κ F H (.tup ds) v) : ∃ a vs, v = .ref a ∧ F a ∧ Rd H a (.tup vs) ∧ Reps κ F H ds vs := by
  rcases h with h | ⟨a, _, h⟩
  · exact h
  · exact h.elim
theorem Bor.lst {ds : List D} {v : V} (h : Bor κ F H (.lst ds) v) : ∃ a vs, v = .ref a ∧ Rd H a (.lst vs) ∧ Reps κ F H ds vs := by
  rcases h with h | ⟨a, rfl, h⟩
  · obtain ⟨a, vs, rfl, _, h1, h2⟩ := h; exact ⟨a, vs, rfl, h1, h2⟩
  · obtain ⟨vs, h1, h2⟩ := h; exact ⟨a, vs, rfl, .of h1, h2⟩
theorem Bor.dct {ks ds : List D} {v : V} (h : Bor κ F H (.dct ks ds) v) : ∃ a vs, v = .ref a ∧ Reps κ F H ds vs ∧
      ((∃ kvs : List (Key × V), H a = some (.dK kvs) ∧ ks = kvs.map (fun p => keyD p.1) ∧ vs = kvs.map (·.2)) ∨
       (∃ kvs : List (List Key × V), H a = some (.dT kvs) ∧ ks = kvs.map (fun p => .tup (p.1.map keyD)) ∧ vs = kvs.map (·.2))) := by
  rcases h with h | ⟨a, rfl, h⟩
  · obtain ⟨a, vs, rfl, _, h1, h2⟩ := h; exact ⟨a, vs, rfl, h1, h2⟩
  · obtain ⟨vs, h1, h2⟩ := h; exact ⟨a, vs, rfl, h1, h2⟩
theorem Bor.ins {c : Nat} {ns : List Str} {ds : List D} {v : V} (h : Bor κ F H (.ins c ns ds) v) : ∃ a dx fs, v = .ref a ∧ H a = some (.ins (κ c) dx fs) ∧ ns = fs.map (·.1) ∧ Reps κ F H ds (fs.map (·.2)) := by
  rcases h with h | ⟨a, rfl, h⟩
  · obtain ⟨a, dx, fs, vs, rfl, _, h1, h2, h3, h4⟩ := h; subst h3; exact ⟨a, dx, fs, rfl, h1, h2, h4⟩
  · obtain ⟨dx, fs, vs, h1, h2, h3, h4⟩ := h; subst h3; exact ⟨a, dx, fs, rfl, h1, h2, h4⟩
theorem Bors.one {d : D} {v : V} (h : Bor κ F H d v) : Bors κ F H [d] [v] := ⟨v, [], rfl, h, rfl⟩
theorem Bors.cons {d : D} {v : V} {ds : List D} {vs : List V} (h : Bor κ F H d v) (t : Bors κ F H ds vs) : Bors κ F H (d :: ds) (v :: vs) := ⟨v, vs, rfl, h, t⟩
theorem Bors.inv1 {d : D} {xs : List V} (h : Bors κ F H [d] xs) : ∃ x, xs = [x] ∧ Bor κ F H d x := by
  obtain ⟨v, r, rfl, h1, h2⟩ := h
  have h2 : r = [] := h2
  subst h2
  exact ⟨v, rfl, h1⟩
theorem Bors.inv2 {d e : D} {xs : List V} (h : Bors κ F H [d, e] xs) : ∃ x y, xs = [x, y] ∧ Bor κ F H d x ∧ Bor κ F H e y := by
  obtain ⟨v, r, rfl, h1, h2⟩ := h
  obtain ⟨w, rfl, h3⟩ := Bors.inv1 h2
  exact ⟨v, w, rfl, h1, h3⟩
/-- giving scalars -/
theorem PostO.val {d : D} (h : PostO κ F H (.val d) Q) {z : V} (hz : Rep κ F H d z) : Q z H := h z F H .refl hz
/-- giving a new tuple -/
theorem PostO.tup {ds : List D} {vs : List V} (h : PostO κ F H (.val (.tup ds)) Q) (hv : Reps κ F H ds vs) {p : Addr} (hp : H p = none) : Q (.ref p) (upd H p (.tup vs)) := by
  refine h (.ref p) _ _ (Grow.laidF hp) ⟨p, vs, rfl, .inr rfl, .of upd_same, ?_⟩
  exact (Grow.laidF hp).reps hv
theorem PostO.lst {ds : List D} {vs : List V} (h : PostO κ F H (.new (.lst ds)) Q) (ht : FTrk F H) (hv : Reps κ F H ds vs) (hp : H p = none) : Q (.ref p) (upd H p (.lst vs)) :=
  h p _ _ (Grow.laid hp) (fun z => ht p z hp) hp ⟨vs, upd_same, (Grow.laid hp).reps hv⟩
end
end JM

namespace JM
open PySem PySem.Spec L2

/-! ### arithmetic -/
def gAdd : D → D → Op
  | .int i, .int j => .val (.int (i + j))
  | .str x, .str y => if x.length + y.length ≤ sizeLine then .val (.str (x ++ y)) else .bad
  | .lst x, .lst y => if x.length + y.length ≤ sizeLine then .new (.lst (x ++ y)) else .bad
  | .tup x, .tup y => if x.length + y.length ≤ sizeLine then .val (.tup (x ++ y)) else .bad
  | _, _ => .bad
def gSub : D → D → Op
  | .int i, .int j => .val (.int (i - j))
  | _, _ => .bad
def gMul : D → D → Op
  | .int i, .int j => if i.natAbs.log2 + j.natAbs.log2 < 1000000 then .val (.int (i * j)) else .bad
  | .lst x, .int k => if 0 ≤ k ∧ x.length * k.toNat ≤ sizeLine then .new (.lst (List.replicate k.toNat x).flatten) else .bad
  | _, _ => .bad
def gDiv : D → D → Op
  | .int i, .int j => if 0 < j ∧ j.natAbs.log2 < 9000 then .val (.int (i / j)) else .bad
  | _, _ => .bad
def gMod : D → D → Op
  | .int i, .int j => if 0 < j then .val (.int (i % j)) else .bad
  | _, _ => .bad
def gPow : D → D → Op
  | .int i, .int j => if 0 ≤ j ∧ (Builtin.Int.intBits i : Int) * j ≤ 2 ^ 27 then .val (.int (i ^ j.toNat)) else .bad
  | _, _ => .bad
def gNeg : D → Op
  | .int i => .val (.int (-i))
  | _ => .bad

section
variable {κ : Nat → Addr} {X : Cx}
theorem Rd.lstI {pins : List (Addr × Obj)} {σ : L2.St} {H : Hp} {s : Shared} (I : Inv X pins σ H s) {l : Addr} {xs : List V} (hH : Rd H l (.lst xs)) :
    xs.length ≤ sizeLine ∧ ∃ (its : List Value) (n : Nat), Vals xs its ∧ xs.length = its.length ∧ s.heap.get? l = some { cls := .type "list", data := .seq its.toArray n } := by
  obtain ⟨its, n, r, e, z⟩ := Rd.lstAt I hH
  exact ⟨z, its, n, r, r.length, e⟩
theorem op_catR : OpR X (binaryOp .Add) (fun x y H Q => ∃ l b xs zs, x = .ref l ∧ y = .ref b ∧ Rd H l (.lst xs) ∧ Rd H b (.lst zs) ∧ xs.length + zs.length ≤ sizeLine ∧ ∀ p, H p = none → Q (.ref p) (upd H p (.lst (xs ++ zs)))) := by
  intro pins s σ H x y v u Q I rx ry h
  obtain ⟨l, b, xs, zs, rfl, rfl, hH, hB, hz, q⟩ := h
  cases rx
  cases ry
  obtain ⟨z, its, n, r, hl, e⟩ := Rd.lstI I hH
  obtain ⟨z2, its2, n2, r2, hl2, e2⟩ := Rd.lstI I hB
  refine PySem.P.add_list e e2 ?_ (by rw [List.size_toArray, List.size_toArray]; omega)
  have ea : its.toArray ++ its2.toArray = (its ++ its2).toArray := by simp
  rw [ea]
  exact ⟨.ref _, _, I.lnew (t' := s.toks) (r.append r2) (by rw [List.length_append]; omega), rfl, q _ I.fresh⟩
theorem d_add : OpR X (binaryOp .Add) (r2 κ gAdd) := by
  refine OpR.imp (op_add.or (op_add_str.or (op_catR.or op_catA))) ?_
  rintro x y H Q ⟨F, d, e, ft, bd, be, q⟩
  cases d with
  | int i =>
    cases e with
    | int j => exact .inl ⟨i, j, bd.int, be.int, q.val rfl⟩
    | _ => exact q.elim
  | str i =>
    cases e with
    | str j =>
      by_cases hz : i.length + j.length ≤ sizeLine
      · rw [gAdd, if_pos hz] at q; exact .inr (.inl ⟨i, j, bd.str, be.str, hz, q.val rfl⟩)
      · rw [gAdd, if_neg hz] at q; exact q.elim
    | _ => exact q.elim
  | lst i =>
    cases e with
    | lst j =>
      by_cases hz : i.length + j.length ≤ sizeLine
      · rw [gAdd, if_pos hz] at q
        obtain ⟨a, vs, rfl, h1, h2⟩ := bd.lst
        obtain ⟨b, ws, rfl, k1, k2⟩ := be.lst
        exact .inr (.inr (.inl ⟨a, b, vs, ws, rfl, rfl, h1, k1, by rw [h2.length, k2.length]; exact hz, fun p hp => q.lst ft (h2.append k2) hp⟩))
      · rw [gAdd, if_neg hz] at q; exact q.elim
    | _ => exact q.elim
  | tup i =>
    cases e with
    | tup j =>
      by_cases hz : i.length + j.length ≤ sizeLine
      · rw [gAdd, if_pos hz] at q
        obtain ⟨a, vs, rfl, f1, h1, h2⟩ := bd.tup
        obtain ⟨b, ws, rfl, f2, k1, k2⟩ := be.tup
        refine .inr (.inr (.inr ⟨a, b, vs, ws, rfl, rfl, .inl h1, .inl k1, by rw [h2.length, k2.length]; exact hz, fun e => ?_, fun _ e => ?_, fun _ _ p hp => q.tup (h2.append k2) hp⟩))
        · subst e
          refine q.val ⟨b, ws, rfl, f2, k1, ?_⟩
          have e2 := h2.length
          have e3 : i = [] := List.length_eq_zero_iff.mp e2.symm
          subst e3
          exact k2
        · subst e
          refine q.val ⟨a, vs, rfl, f1, h1, ?_⟩
          have e2 := k2.length
          have e3 : j = [] := List.length_eq_zero_iff.mp e2.symm
          subst e3
          rw [List.append_nil]
          exact h2
      · rw [gAdd, if_neg hz] at q; exact q.elim
    | _ => exact q.elim
  | _ => exact q.elim
theorem d_sub : OpR X (binaryOp .Sub) (r2 κ gSub) := by
  refine OpR.imp op_sub ?_
  rintro x y H Q ⟨F, d, e, ft, bd, be, q⟩
  cases d with
  | int i =>
    cases e with
    | int j => exact ⟨i, j, bd.int, be.int, q.val rfl⟩
    | _ => exact q.elim
  | _ => exact q.elim
theorem op_repR : OpR X (binaryOp .Mult) (fun x y H Q => ∃ l k xs, x = .ref l ∧ y = .int k ∧ Rd H l (.lst xs) ∧ 0 ≤ k ∧ k < 2 ^ 63 ∧ xs.length * k.toNat ≤ sizeLine ∧ H l = some (.lst xs) ∧
    ∀ p, H p = none → Q (.ref p) (upd H p (.lst (List.replicate k.toNat xs).flatten))) :=
  OpR.imp op_rep fun x y H Q ⟨l, k, xs, e1, e2, _, h1, h2, h3, h4, q⟩ => ⟨l, k, xs, e1, e2, h4, by omega, h2, h3, q⟩
theorem d_div : OpR X (binaryOp .FloorDiv) (r2 κ gDiv) := by
  refine OpR.imp op_fdivW ?_
  rintro x y H Q ⟨F, d, e, ft, bd, be, q⟩
  cases d with
  | int i =>
    cases e with
    | int j =>
      by_cases hz : 0 < j ∧ j.natAbs.log2 < 9000
      · rw [gDiv, if_pos hz] at q; exact ⟨i, j, bd.int, be.int, hz, q.val rfl⟩
      · rw [gDiv, if_neg hz] at q; exact q.elim
    | _ => exact q.elim
  | _ => exact q.elim
theorem d_mod : OpR X (binaryOp .Mod) (r2 κ gMod) := by
  refine OpR.imp op_mod ?_
  rintro x y H Q ⟨F, d, e, ft, bd, be, q⟩
  cases d with
  | int i =>
    cases e with
    | int j =>
      by_cases hz : 0 < j
      · rw [gMod, if_pos hz] at q; exact ⟨i, j, bd.int, be.int, hz, q.val rfl⟩
      · rw [gMod, if_neg hz] at q; exact q.elim
    | _ => exact q.elim
  | _ => exact q.elim
theorem d_pow : OpR X (binaryOp .Pow) (r2 κ gPow) := by
  refine OpR.imp (opI (C := fun i j => 0 ≤ j ∧ (Builtin.Int.intBits i : Int) * j ≤ 2 ^ 27) (g := fun i j => i ^ j.toNat) fun i j t u s Q E hc q => PyProof.Rows.pow_int hc.1 hc.2 q) ?_
  rintro x y H Q ⟨F, d, e, ft, bd, be, q⟩
  cases d with
  | int i =>
    cases e with
    | int j =>
      by_cases hz : 0 ≤ j ∧ (Builtin.Int.intBits i : Int) * j ≤ 2 ^ 27
      · rw [gPow, if_pos hz] at q; exact ⟨i, j, bd.int, be.int, hz, q.val rfl⟩
      · rw [gPow, if_neg hz] at q; exact q.elim
    | _ => exact q.elim
  | _ => exact q.elim
theorem d_neg : UnR X (unaryOp .USub) (r1 κ gNeg) := by
  refine UnR.imp un_neg ?_
  rintro x H Q ⟨F, d, ft, bd, q⟩
  cases d with
  | int i => exact ⟨i, bd.int, q.val rfl⟩
  | _ => exact q.elim
end

/-! ### comparisons -/
/-- == of data without dicts and instances -/
def gEq (neg : Bool) (d e : D) : Op :=
  if d.flat = true ∧ e.flat = true ∧ min d.py.depth e.py.depth ≤ 60 then .val (.bl (if neg then !PyData.eqv d.py e.py else PyData.eqv d.py e.py)) else .bad
def gLt (d e : D) : Op :=
  if d.flat = true ∧ e.flat = true ∧ PySem.W.alike d.py e.py = true ∧ d ≠ .non ∧ min d.py.depth e.py.depth ≤ 60 then .val (.bl (PySem.W.dataLt d.py e.py)) else .bad
def gLe (d e : D) : Op :=
  if d.flat = true ∧ e.flat = true ∧ PySem.W.alike d.py e.py = true ∧ d ≠ .non ∧ min d.py.depth e.py.depth ≤ 60 then .val (.bl (!PySem.W.dataLt e.py d.py)) else .bad
def gIs (neg : Bool) (d e : D) : Op := match e with
  | .non => .val (.bl (if neg then !decide (d = .non) else decide (d = .non)))
  | _ => .bad

section
variable {κ : Nat → Addr} {X : Cx}
theorem flat_reads {F : Addr → Prop} {pins : List (Addr × Obj)} {σ : L2.St} {H : Hp} {s : Shared} (I : Inv X pins σ H s) {d : D} {v : V} {u : Value} (hf : d.flat = true) (b : Bor κ F H d v) (r : RelV v u) : ∃ as, Reads s.heap u d.py as := by
  obtain ⟨G, h⟩ := b.rep
  obtain ⟨as, h, _⟩ := Rep.reads I d v u (D.noIns_of_flat d hf) h r
  exact ⟨as, h⟩
theorem py_none {d : D} (hf : d.flat = true) (h : d ≠ .non) : d.py ≠ .none := by
  cases d <;> first | exact absurd rfl h | (simp [D.py]; done) | (simp [D.flat] at hf; done)
theorem d_eq (hu : X.A.units + 64 < cLine) (neg : Bool) : OpR X (compareOp (if neg then .NotEq else .Eq)) (r2 κ (gEq neg)) := by
  rintro pins s σ H x y v u Q I rx ry ⟨F, d, e, ft, bd, be, q⟩
  by_cases hz : d.flat = true ∧ e.flat = true ∧ min d.py.depth e.py.depth ≤ 60
  · rw [gEq, if_pos hz] at q
    obtain ⟨as, h1⟩ := flat_reads I hz.1 bd rx
    obtain ⟨bs, h2⟩ := flat_reads I hz.2.1 be ry
    cases neg with
    | false => exact SeqAt.eq_plain h1 h2 (D.plain_of_flat d hz.1) (D.plain_of_flat e hz.2.1) (by omega) ⟨.bl _, H, I, rfl, q.val rfl⟩
    | true => exact SeqAt.ne_plain h1 h2 (D.plain_of_flat d hz.1) (D.plain_of_flat e hz.2.1) (by omega) ⟨.bl _, H, I, rfl, q.val rfl⟩
  · rw [gEq, if_neg hz] at q; exact q.elim
theorem d_lt (hu : X.A.units + 64 < cLine) : OpR X (compareOp .Lt) (r2 κ gLt) := by
  rintro pins s σ H x y v u Q I rx ry ⟨F, d, e, ft, bd, be, q⟩
  by_cases hz : d.flat = true ∧ e.flat = true ∧ PySem.W.alike d.py e.py = true ∧ d ≠ .non ∧ min d.py.depth e.py.depth ≤ 60
  · rw [gLt, if_pos hz] at q
    obtain ⟨z1, z2, z3, z4, z5⟩ := hz
    obtain ⟨as, h1⟩ := flat_reads I z1 bd rx
    obtain ⟨bs, h2⟩ := flat_reads I z2 be ry
    exact PySem.W.lt_data h1 h2 z3 (py_none z1 z4) (by omega) ⟨.bl _, H, I, rfl, q.val rfl⟩
  · rw [gLt, if_neg hz] at q; exact q.elim
theorem d_gt (hu : X.A.units + 64 < cLine) : OpR X (compareOp .Gt) (r2 κ fun d e => gLt e d) := by
  rintro pins s σ H x y v u Q I rx ry ⟨F, d, e, ft, bd, be, q⟩
  have q : PostO κ F H (gLt e d) Q := q
  by_cases hz : e.flat = true ∧ d.flat = true ∧ PySem.W.alike e.py d.py = true ∧ e ≠ .non ∧ min e.py.depth d.py.depth ≤ 60
  · rw [gLt, if_pos hz] at q
    obtain ⟨z1, z2, z3, z4, z5⟩ := hz
    obtain ⟨as, h1⟩ := flat_reads I z2 bd rx
    obtain ⟨bs, h2⟩ := flat_reads I z1 be ry
    have z3' : PySem.W.alike d.py e.py = true := by rw [PySem.W.alike_comm]; exact z3
    exact PySem.W.gt_data h1 h2 z3' (PySem.W.ne_none_both z3 (py_none z1 z4)) (by omega) ⟨.bl _, H, I, rfl, q.val rfl⟩
  · rw [gLt, if_neg hz] at q; exact q.elim
theorem d_le (hu : X.A.units + 64 < cLine) : OpR X (compareOp .LtE) (r2 κ gLe) := by
  rintro pins s σ H x y v u Q I rx ry ⟨F, d, e, ft, bd, be, q⟩
  by_cases hz : d.flat = true ∧ e.flat = true ∧ PySem.W.alike d.py e.py = true ∧ d ≠ .non ∧ min d.py.depth e.py.depth ≤ 60
  · rw [gLe, if_pos hz] at q
    obtain ⟨z1, z2, z3, z4, z5⟩ := hz
    obtain ⟨as, h1⟩ := flat_reads I z1 bd rx
    obtain ⟨bs, h2⟩ := flat_reads I z2 be ry
    exact PySem.W.le_data h1 h2 z3 (py_none z1 z4) (by omega) ⟨.bl _, H, I, rfl, q.val rfl⟩
  · rw [gLe, if_neg hz] at q; exact q.elim
theorem d_ge (hu : X.A.units + 64 < cLine) : OpR X (compareOp .GtE) (r2 κ fun d e => gLe e d) := by
  rintro pins s σ H x y v u Q I rx ry ⟨F, d, e, ft, bd, be, q⟩
  have q : PostO κ F H (gLe e d) Q := q
  by_cases hz : e.flat = true ∧ d.flat = true ∧ PySem.W.alike e.py d.py = true ∧ e ≠ .non ∧ min e.py.depth d.py.depth ≤ 60
  · rw [gLe, if_pos hz] at q
    obtain ⟨z1, z2, z3, z4, z5⟩ := hz
    obtain ⟨as, h1⟩ := flat_reads I z2 bd rx
    obtain ⟨bs, h2⟩ := flat_reads I z1 be ry
    have z3' : PySem.W.alike d.py e.py = true := by rw [PySem.W.alike_comm]; exact z3
    exact PySem.W.ge_data h1 h2 z3' (PySem.W.ne_none_both z3 (py_none z1 z4)) (by omega) ⟨.bl _, H, I, rfl, q.val rfl⟩
  · rw [gLe, if_neg hz] at q; exact q.elim
theorem Bor.isNon {F : Addr → Prop} {H : Hp} {d : D} {v : V} (b : Bor κ F H d v) : decide (v = .non) = decide (d = .non) := by
  cases d with
  | non => rw [b.non]; rfl
  | bl i => rw [b.bl]; rfl
  | int i => rw [b.int]; rfl
  | str i => rw [b.str]; rfl
  | tup i => obtain ⟨a, vs, rfl, _⟩ := b.tup; rfl
  | lst i => obtain ⟨a, vs, rfl, _⟩ := b.lst; rfl
  | dct i j => obtain ⟨a, vs, rfl, _⟩ := b.dct; rfl
  | ins i j k => obtain ⟨a, vs, _, rfl, _⟩ := b.ins; rfl
theorem d_is : OpR X (compareOp .Is) (r2 κ (gIs false)) := by
  refine OpR.imp op_isN ?_
  rintro x y H Q ⟨F, d, e, ft, bd, be, q⟩
  cases e with
  | non => exact ⟨be.non, by rw [bd.isNon]; exact q.val rfl⟩
  | _ => exact q.elim
theorem d_isnot : OpR X (compareOp .IsNot) (r2 κ (gIs true)) := by
  refine OpR.imp op_notN ?_
  rintro x y H Q ⟨F, d, e, ft, bd, be, q⟩
  cases e with
  | non => exact ⟨be.non, by rw [bd.isNon]; exact q.val rfl⟩
  | _ => exact q.elim
end

/-! ### in -/
def gIn (neg : Bool) (d e : D) : Op := match e with
  | .str z => match d with
    | .str x => .val (.bl (if neg then !(!(Builtin.Str.occurrences z x 0 z.length 1).isEmpty) else !(Builtin.Str.occurrences z x 0 z.length 1).isEmpty))
    | _ => .bad
  | .lst xs => if d.flat = true ∧ D.flats xs = true ∧ d.py.depth ≤ 60 then .val (.bl (if neg then !(xs.any fun y => PyData.eqv y.py d.py) else xs.any fun y => PyData.eqv y.py d.py)) else .bad
  | .tup xs => if d.flat = true ∧ D.flats xs = true ∧ d.py.depth ≤ 60 then .val (.bl (if neg then !(xs.any fun y => PyData.eqv y.py d.py) else xs.any fun y => PyData.eqv y.py d.py)) else .bad
  | _ => .bad
section
variable {κ : Nat → Addr} {X : Cx}
theorem any_pys (xs : List D) (d : PyData) : (D.pys xs).any (fun y => PyData.eqv y d) = xs.any fun y => PyData.eqv y.py d := by
  rw [D.pys_map, List.any_map]; rfl
theorem d_in (hu : X.A.units + 64 < cLine) (neg : Bool) : OpR X (compareOp (if neg then .NotIn else .In)) (r2 κ (gIn neg)) := by
  rintro pins s σ H x y v u Q I rx ry ⟨F, d, e, ft, bd, be, q⟩
  cases e with
  | str z =>
    cases d with
    | str w =>
      cases neg with
      | false => exact op_in_str pins s σ H x y v u Q I rx ry ⟨w, z, bd.str, be.str, q.val rfl⟩
      | true => exact op_notin_str pins s σ H x y v u Q I rx ry ⟨w, z, bd.str, be.str, q.val rfl⟩
    | _ => exact q.elim
  | lst xs =>
    by_cases hz : d.flat = true ∧ D.flats xs = true ∧ d.py.depth ≤ 60
    · rw [gIn, if_pos hz] at q
      obtain ⟨z1, z2, z3⟩ := hz
      obtain ⟨as, h1⟩ := flat_reads I z1 bd rx
      obtain ⟨bs, h2⟩ := flat_reads I (d := .lst xs) z2 be ry
      have hd : X.A.units + 1 + min (PyData.depthAll (D.pys xs)) d.py.depth < cLine := by omega
      cases neg with
      | false => exact SeqAt.in_list_data h2 h1 (D.plain_of_flats xs z2) (D.plain_of_flat d z1) hd ⟨.bl _, H, I, rfl, by rw [any_pys]; exact q.val rfl⟩
      | true => exact SeqAt.notIn_list_data h2 h1 (D.plain_of_flats xs z2) (D.plain_of_flat d z1) hd ⟨.bl _, H, I, rfl, by rw [any_pys]; exact q.val rfl⟩
    · rw [gIn, if_neg hz] at q; exact q.elim
  | tup xs =>
    by_cases hz : d.flat = true ∧ D.flats xs = true ∧ d.py.depth ≤ 60
    · rw [gIn, if_pos hz] at q
      obtain ⟨z1, z2, z3⟩ := hz
      obtain ⟨as, h1⟩ := flat_reads I z1 bd rx
      obtain ⟨bs, h2⟩ := flat_reads I (d := .tup xs) z2 be ry
      have hd : X.A.units + 1 + min (PyData.depthAll (D.pys xs)) d.py.depth < cLine := by omega
      cases neg with
      | false => exact SeqAt.in_tuple_data h2 h1 (D.plain_of_flats xs z2) (D.plain_of_flat d z1) hd ⟨.bl _, H, I, rfl, by rw [any_pys]; exact q.val rfl⟩
      | true => exact SeqAt.notIn_tuple_data h2 h1 (D.plain_of_flats xs z2) (D.plain_of_flat d z1) hd ⟨.bl _, H, I, rfl, by rw [any_pys]; exact q.val rfl⟩
    · rw [gIn, if_neg hz] at q; exact q.elim
  | _ => exact q.elim
end
end JM

namespace JM
open PySem PySem.Spec L2

/-! ### products -/
section
variable {κ : Nat → Addr} {X : Cx}
theorem op_repR' : OpR X (binaryOp .Mult) (fun x y H Q => ∃ l k xs, x = .ref l ∧ y = .int k ∧ Rd H l (.lst xs) ∧ 0 ≤ k ∧ k < 2 ^ 63 ∧ xs.length * k.toNat ≤ sizeLine ∧
    ∀ p, H p = none → Q (.ref p) (upd H p (.lst (List.replicate k.toNat xs).flatten))) := by
  intro pins s σ H x y v u Q I rx ry h
  obtain ⟨l, k, xs, rfl, rfl, hH, k0, k1, hz, q⟩ := h
  cases rx
  obtain ⟨t, rfl⟩ := ry
  obtain ⟨_, its, n, r, hl, e⟩ := Rd.lstI I hH
  have small : its.toArray.size * k.toNat ≤ sizeLine := by rw [List.size_toArray, ← hl]; exact hz
  have c1 : ¬ (!Builtin.List.listFitsIndex k) = true := by rw [fitsIndex_both (by omega) k1]; simp
  have c2 : ¬ its.toArray.size * k.toNat > (2 ^ 63 - 1) / 8 := by
    have z : (sizeLine : Nat) ≤ (2 ^ 63 - 1) / 8 := by decide
    omega
  have c3 : ¬ Builtin.List.listTooLong (its.toArray.size * k.toNat) = true := by rw [notLongL small]; simp
  have flat : List.foldl (fun a b => a ++ b) #[] (List.replicate (if its.toArray.isEmpty = true then 0 else k.toNat) its.toArray) = (List.replicate k.toNat its).flatten.toArray := by
    have z : ∀ m : Nat, List.foldl (fun a b => a ++ b) #[] (List.replicate m its.toArray) = (List.replicate m its).flatten.toArray := fun m => by simpa using foldl_rep its m []
    rw [z]
    cases its with
    | nil => simp
    | cons a r' => rw [if_neg (by simp)]
  refine wpAny_binaryOp_repeat_ref (T := "list") (U := "int") (by decide) ⟨_, e, rfl⟩ (fun s' => typeIs_int s' k t) noFill_list_mul F.fills_int_mul F.slot_int_rmul repeat_list F.slot_int_index.lookup
    (call_meets F.slot_int_rmul (typeIs_int s k t) F.entry_int_rmul (F.args_int_rmul_2 _ _) (int___rmul___int_list k t l its.toArray n) ⟨e, rfl, ⟨_, e, rfl⟩, ?_⟩)
  refine call_meets F.slot_list_mul ⟨_, e, rfl⟩ F.entry_list_mul (F.args_list_mul_2 _ _) (AutoListH.list___mul___list_int_3 l its.toArray n k t c1 c2 c3) ⟨e, ?_⟩
  rw [flat]
  exact ⟨.ref _, _, I.lnew (t' := s.toks) (r.rep k.toNat) (by rw [PyProof.Rows.lm_len_rep_flat, Nat.mul_comm]; exact hz), rfl, q _ I.fresh⟩
end
end JM
namespace JM
open PySem PySem.Spec L2
def gMulA : D → D → Op
  | .str x, .int k => if x.length ≤ 1000 ∧ 0 ≤ k ∧ k ≤ 1000 then .val (.str (Txt.mul x k)) else .bad
  | .lst x, .int k => if 0 ≤ k ∧ k ≤ 100000 ∧ x.length * k.toNat ≤ sizeLine then .new (.lst (List.replicate k.toNat x).flatten) else .bad
  | .tup x, .int k => if x ≠ [] ∧ 2 ≤ k ∧ k ≤ 1000 ∧ x.length ≤ 1000 then .val (.tup (List.replicate k.toNat x).flatten) else .bad
  | .int i, .int j => if i.natAbs.log2 + j.natAbs.log2 < 1000000 then .val (.int (i * j)) else .bad
  | _, _ => .bad
section
variable {κ : Nat → Addr} {X : Cx} {F : Addr → Prop} {H : Hp}
theorem Reps.rep {ds : List D} {vs : List V} (h : Reps κ F H ds vs) : ∀ k : Nat, Reps κ F H (List.replicate k ds).flatten (List.replicate k vs).flatten
  | 0 => rfl
  | k + 1 => by
    rw [List.replicate_succ, List.replicate_succ, List.flatten_cons, List.flatten_cons]
    exact h.append (Reps.rep h k)
theorem op_mulStr : OpR X (binaryOp .Mult) (fun x y H Q => ∃ z k, x = .str z ∧ y = .int k ∧ z.length ≤ 1000 ∧ 0 ≤ k ∧ k ≤ 1000 ∧ Q (.str (Txt.mul z k)) H) := by
  intro pins s σ H x y v u Q I rx ry h
  obtain ⟨z, k, rfl, rfl, hz, k0, k1, q⟩ := h
  obtain ⟨t, rfl⟩ := rx
  obtain ⟨t', rfl⟩ := ry
  refine SB.mul ⟨?_, fun h1 _ => ?_, fun _ _ => ?_⟩ fun t1 k' => ⟨.str _, H, I.tok _, ⟨_, rfl⟩, q⟩
  · simp only [Bool.or_eq_false_iff, decide_eq_false_iff_not]; omega
  · have : (2 ^ 63 - 1) / 1000 ≤ (2 ^ 63 - 1) / k := by
      refine Int.le_ediv_of_mul_le (by omega) ?_
      omega
    omega
  · unfold Builtin.Str.tooLong
    rw [decide_eq_false_iff_not]
    have h2 : z.length * k.toNat ≤ 1000 * 1000 := Nat.mul_le_mul hz (by omega)
    have := sizeLine_eq
    omega
theorem d_mul : OpR X (binaryOp .Mult) (r2 κ gMulA) := by
  refine OpR.imp (op_mulW.or (op_mulStr.or (op_repR'.or op_repT))) ?_
  rintro x y H Q ⟨F, d, e, ft, bd, be, q⟩
  cases d with
  | int i =>
    cases e with
    | int j =>
      by_cases hz : i.natAbs.log2 + j.natAbs.log2 < 1000000
      · rw [gMulA, if_pos hz] at q; exact .inl ⟨i, j, bd.int, be.int, hz, q.val rfl⟩
      · rw [gMulA, if_neg hz] at q; exact q.elim
    | _ => exact q.elim
  | str i =>
    cases e with
    | int j =>
      by_cases hz : i.length ≤ 1000 ∧ 0 ≤ j ∧ j ≤ 1000
      · rw [gMulA, if_pos hz] at q; exact .inr (.inl ⟨i, j, bd.str, be.int, hz.1, hz.2.1, hz.2.2, q.val rfl⟩)
      · rw [gMulA, if_neg hz] at q; exact q.elim
    | _ => exact q.elim
  | lst i =>
    cases e with
    | int j =>
      by_cases hz : 0 ≤ j ∧ j ≤ 100000 ∧ i.length * j.toNat ≤ sizeLine
      · rw [gMulA, if_pos hz] at q
        obtain ⟨a, vs, rfl, h1, h2⟩ := bd.lst
        exact .inr (.inr (.inl ⟨a, j, vs, rfl, be.int, h1, hz.1, by omega, by rw [h2.length]; exact hz.2.2, fun p hp => q.lst ft (h2.rep _) hp⟩))
      · rw [gMulA, if_neg hz] at q; exact q.elim
    | _ => exact q.elim
  | tup i =>
    cases e with
    | int j =>
      by_cases hz : i ≠ [] ∧ 2 ≤ j ∧ j ≤ 1000 ∧ i.length ≤ 1000
      · rw [gMulA, if_pos hz] at q
        obtain ⟨a, vs, rfl, f1, h1, h2⟩ := bd.tup
        refine .inr (.inr (.inr ⟨a, j, vs, rfl, be.int, .inl h1, fun z => hz.1 ?_, hz.2.1, hz.2.2.1, by rw [h2.length]; exact hz.2.2.2, fun p hp => q.tup (h2.rep _) hp⟩))
        have := h2.length
        rw [z] at this
        exact List.length_eq_zero_iff.mp this.symm
      · rw [gMulA, if_neg hz] at q; exact q.elim
    | _ => exact q.elim
  | _ => exact q.elim
end
end JM

namespace JM
open PySem PySem.Spec L2

/-! ### built-in functions -/
def intsOf? : List D → Option (List Int)
  | [] => some []
  | .int i :: r => (intsOf? r).map (i :: ·)
  | _ :: _ => none
def blsOf? : List D → Option (List Bool)
  | [] => some []
  | .bl i :: r => (blsOf? r).map (i :: ·)
  | _ :: _ => none
def strsOf? : List D → Option (List Str)
  | [] => some []
  | .str i :: r => (strsOf? r).map (i :: ·)
  | _ :: _ => none
theorem intsOf_eq : ∀ {ds : List D} {ns : List Int}, intsOf? ds = some ns → ds = ns.map .int
  | [], _, h => by cases h; rfl
  | .int i :: r, _, h => by
    cases e : intsOf? r with
    | none => simp [intsOf?, e] at h
    | some ms =>
      simp [intsOf?, e] at h
      subst h
      rw [intsOf_eq e]; rfl
  | .non :: _, _, h => nomatch h
  | .bl _ :: _, _, h => nomatch h
  | .str _ :: _, _, h => nomatch h
  | .tup _ :: _, _, h => nomatch h
  | .lst _ :: _, _, h => nomatch h
  | .dct _ _ :: _, _, h => nomatch h
  | .ins _ _ _ :: _, _, h => nomatch h
theorem blsOf_eq : ∀ {ds : List D} {ns : List Bool}, blsOf? ds = some ns → ds = ns.map .bl
  | [], _, h => by cases h; rfl
  | .bl i :: r, _, h => by
    cases e : blsOf? r with
    | none => simp [blsOf?, e] at h
    | some ms =>
      simp [blsOf?, e] at h
      subst h
      rw [blsOf_eq e]; rfl
  | .non :: _, _, h => nomatch h
  | .int _ :: _, _, h => nomatch h
  | .str _ :: _, _, h => nomatch h
  | .tup _ :: _, _, h => nomatch h
  | .lst _ :: _, _, h => nomatch h
  | .dct _ _ :: _, _, h => nomatch h
  | .ins _ _ _ :: _, _, h => nomatch h
theorem strsOf_eq : ∀ {ds : List D} {ns : List Str}, strsOf? ds = some ns → ds = ns.map .str
  | [], _, h => by cases h; rfl
  | .str i :: r, _, h => by
    cases e : strsOf? r with
    | none => simp [strsOf?, e] at h
    | some ms =>
      simp [strsOf?, e] at h
      subst h
      rw [strsOf_eq e]; rfl
  | .non :: _, _, h => nomatch h
  | .int _ :: _, _, h => nomatch h
  | .bl _ :: _, _, h => nomatch h
  | .tup _ :: _, _, h => nomatch h
  | .lst _ :: _, _, h => nomatch h
  | .dct _ _ :: _, _, h => nomatch h
  | .ins _ _ _ :: _, _, h => nomatch h
theorem intsOf_map (ns : List Int) : intsOf? (ns.map .int) = some ns := by
  induction ns with
  | nil => rfl
  | cons n r ih => simp [intsOf?, ih]
theorem blsOf_map (ns : List Bool) : blsOf? (ns.map .bl) = some ns := by
  induction ns with
  | nil => rfl
  | cons n r ih => simp [blsOf?, ih]
theorem strsOf_map (ns : List Str) : strsOf? (ns.map .str) = some ns := by
  induction ns with
  | nil => rfl
  | cons n r ih => simp [strsOf?, ih]
section
variable {κ : Nat → Addr} {F : Addr → Prop} {H : Hp}
theorem Reps.ints : ∀ {ns : List Int} {vs : List V}, Reps κ F H (ns.map .int) vs → vs = ns.map .int
  | [], _, h => h
  | n :: ns, _, h => by
    obtain ⟨v, r, rfl, h1, h2⟩ := h
    rw [Reps.ints h2, show v = V.int n from h1]; rfl
theorem Reps.bls : ∀ {ns : List Bool} {vs : List V}, Reps κ F H (ns.map .bl) vs → vs = ns.map .bl
  | [], _, h => h
  | n :: ns, _, h => by
    obtain ⟨v, r, rfl, h1, h2⟩ := h
    rw [Reps.bls h2, show v = V.bl n from h1]; rfl
theorem Reps.strs : ∀ {ns : List Str} {vs : List V}, Reps κ F H (ns.map .str) vs → vs = ns.map .str
  | [], _, h => h
  | n :: ns, _, h => by
    obtain ⟨v, r, rfl, h1, h2⟩ := h
    rw [Reps.strs h2, show v = V.str n from h1]; rfl
theorem reps_ints : ∀ ns : List Int, Reps κ F H (ns.map .int) (ns.map .int)
  | [] => rfl
  | n :: ns => ⟨_, _, rfl, rfl, reps_ints ns⟩
theorem reps_strs : ∀ ns : List Str, Reps κ F H (ns.map .str) (ns.map .str)
  | [] => rfl
  | n :: ns => ⟨_, _, rfl, rfl, reps_strs ns⟩
end

mutual
theorem D.noDict : ∀ d : D, d.flat = true → d.py.hasDict = false
  | .non, _ => rfl
  | .bl _, _ => rfl
  | .int _, _ => rfl
  | .str _, _ => rfl
  | .tup xs, h => D.noDicts xs h
  | .lst xs, h => D.noDicts xs h
  | .dct _ _, h => by cases h
  | .ins _ _ _, h => by cases h
theorem D.noDicts : ∀ ds : List D, D.flats ds = true → PyData.hasDictAll (D.pys ds) = false
  | [], _ => rfl
  | d :: ds, h => by
    rw [D.flats, Bool.and_eq_true] at h
    rw [D.pys, PyData.hasDictAll, D.noDict d h.1, D.noDicts ds h.2]; rfl
end
/-- the greatest (least) of some ints -/
def maxI : List Int → Int
  | [] => 0
  | n :: r => r.foldl max n
def minI : List Int → Int
  | [] => 0
  | n :: r => r.foldl min n
theorem foldl_max : ∀ (r : List Int) (n : Int), (r.foldl max n ∈ n :: r) ∧ ∀ y ∈ n :: r, y ≤ r.foldl max n
  | [], n => by simp
  | m :: r, n => by
    obtain ⟨h1, h2⟩ := foldl_max r (max n m)
    rw [List.foldl_cons]
    refine ⟨?_, fun y hy => ?_⟩
    · rcases List.mem_cons.mp h1 with e | e
      · rw [e]
        rcases Int.le_total n m with h | h
        · rw [Int.max_eq_right h]; simp
        · rw [Int.max_eq_left h]; simp
      · exact List.mem_cons_of_mem _ (List.mem_cons_of_mem _ e)
    · have hx := h2 (max n m) List.mem_cons_self
      rcases List.mem_cons.mp hy with rfl | hy
      · omega
      · rcases List.mem_cons.mp hy with rfl | hy
        · omega
        · exact h2 y (List.mem_cons_of_mem _ hy)
theorem foldl_min : ∀ (r : List Int) (n : Int), (r.foldl min n ∈ n :: r) ∧ ∀ y ∈ n :: r, r.foldl min n ≤ y
  | [], n => by simp
  | m :: r, n => by
    obtain ⟨h1, h2⟩ := foldl_min r (min n m)
    rw [List.foldl_cons]
    refine ⟨?_, fun y hy => ?_⟩
    · rcases List.mem_cons.mp h1 with e | e
      · rw [e]
        rcases Int.le_total n m with h | h
        · rw [Int.min_eq_left h]; simp
        · rw [Int.min_eq_right h]; simp
      · exact List.mem_cons_of_mem _ (List.mem_cons_of_mem _ e)
    · have hx := h2 (min n m) List.mem_cons_self
      rcases List.mem_cons.mp hy with rfl | hy
      · omega
      · rcases List.mem_cons.mp hy with rfl | hy
        · omega
        · exact h2 y (List.mem_cons_of_mem _ hy)
theorem maxI_mem {ns : List Int} (h : ns ≠ []) : maxI ns ∈ ns ∧ ∀ y ∈ ns, y ≤ maxI ns := by
  cases ns with
  | nil => exact absurd rfl h
  | cons n r => exact foldl_max r n
theorem minI_mem {ns : List Int} (h : ns ≠ []) : minI ns ∈ ns ∧ ∀ y ∈ ns, minI ns ≤ y := by
  cases ns with
  | nil => exact absurd rfl h
  | cons n r => exact foldl_min r n

/-- a function of one argument -/
def un (g : D → Op) : List D → Op
  | [d] => g d
  | _ => .bad
def gLen : D → Op
  | .str x => if x.length ≤ sizeLine then .val (.int x.length) else .bad
  | .lst x => .val (.int x.length)
  | .tup x => .val (.int x.length)
  | _ => .bad
def gAbs : D → Op
  | .int i => .val (.int i.natAbs)
  | _ => .bad
def gInt : D → Op
  | .int i => .val (.int i)
  | .bl k => .val (.int (if k then 1 else 0))
  | _ => .bad
def gMax : List D → Op
  | [.int i, .int j] => .val (.int (max i j))
  | [.lst x] => match intsOf? x with
    | some (n :: r) => .val (.int (maxI (n :: r)))
    | _ => .bad
  | _ => .bad
def gMin : List D → Op
  | [.int i, .int j] => .val (.int (min i j))
  | [.lst x] => match intsOf? x with
    | some (n :: r) => .val (.int (minI (n :: r)))
    | _ => .bad
  | _ => .bad
def gList : D → Op
  | .lst x => .new (.lst x)
  | .tup x => .new (.lst x)
  | _ => .bad
def gTuple : D → Op
  | .lst x => .val (.tup x)
  | .tup x => .val (.tup x)
  | _ => .bad
def gSum : List D → Op
  | [.lst x] => match intsOf? x with
    | some ns => .val (.int ns.sum)
    | _ => .bad
  | _ => .bad
def gAll : List D → Op
  | [.lst x] => match blsOf? x with
    | some ns => .val (.bl (ns.all id))
    | _ => .bad
  | _ => .bad
def gRepr : D → Op
  | d => if d.noIns = true ∧ (d.flat = true ∨ d.noLst = true) ∧ d.py.showable = true ∧ d.py.depth ≤ 60 ∧ d.py.shown.length ≤ sizeLine then .val (.str d.py.shown) else .bad
def gStr : D → Op
  | .int i => if i.natAbs.log2 < 1920 then .val (.str (toString i)) else .bad
  | .str x => .val (.str x)
  | _ => .bad

section
variable {κ : Nat → Addr} {X : Cx}
theorem bN1 {xs : List V} {H : Hp} {Q : VK} {g : D → Op} (h : rN κ (un g) xs H Q) : ∃ F d x, FTrk F H ∧ xs = [x] ∧ Bor κ F H d x ∧ PostO κ F H (g d) Q := by
  obtain ⟨F, ds, ft, b, q⟩ := h
  match ds, b, q with
  | [], b, q => exact q.elim
  | [d], b, q =>
    obtain ⟨x, e, b'⟩ := b.inv1
    exact ⟨F, d, x, ft, e, b', q⟩
  | _ :: _ :: _, b, q => exact q.elim
theorem c_len : CallR X (.builtin "len") (rN κ (un gLen)) := by
  refine CallR.imp call_len fun xs H Q h => ?_
  obtain ⟨F, d, x, ft, rfl, b, q⟩ := bN1 h
  cases d with
  | str z =>
    by_cases hz : z.length ≤ sizeLine
    · rw [gLen, if_pos hz] at q
      rw [b.str]
      exact ⟨_, z.length, rfl, ⟨hz, rfl⟩, q.val rfl⟩
    · rw [gLen, if_neg hz] at q; exact q.elim
  | lst ds =>
    obtain ⟨a, vs, rfl, h1, h2⟩ := b.lst
    exact ⟨_, vs.length, rfl, .inl ⟨vs, .inl h1, rfl⟩, by rw [h2.length]; exact q.val rfl⟩
  | tup ds =>
    obtain ⟨a, vs, rfl, _, h1, h2⟩ := b.tup
    exact ⟨_, vs.length, rfl, .inr ⟨vs, .inl h1, rfl⟩, by rw [h2.length]; exact q.val rfl⟩
  | _ => exact q.elim
theorem c_abs : CallR X (.builtin "abs") (rN κ (un gAbs)) := by
  refine CallR.imp call_abs fun xs H Q h => ?_
  obtain ⟨F, d, x, ft, rfl, b, q⟩ := bN1 h
  cases d with
  | int z =>
    refine ⟨z, by rw [b.int], ?_⟩
    have e : (if z < 0 then -z else z) = (z.natAbs : Int) := by split <;> omega
    rw [e]
    exact q.val rfl
  | _ => exact q.elim
theorem c_int : CallR X (.type "int") (rN κ (un gInt)) := by
  refine CallR.imp call_int1 fun xs H Q h => ?_
  obtain ⟨F, d, x, ft, rfl, b, q⟩ := bN1 h
  cases d with
  | int z => exact .inl ⟨z, by rw [b.int], q.val rfl⟩
  | bl z => exact .inr ⟨z, by rw [b.bl], q.val rfl⟩
  | _ => exact q.elim
theorem c_max (hc : X.calm = true) : CallR X (.builtin "max") (rN κ gMax) := by
  refine CallR.imp (CallR.or (call_max2 hc) (cr_max hc)) ?_
  rintro xs H Q ⟨F, ds, ft, b, q⟩
  unfold gMax at q
  split at q
  · obtain ⟨x, y, rfl, b1, b2⟩ := b.inv2
    rename_i i j
    refine .inl ⟨i, j, by rw [b1.int, b2.int], ?_⟩
    have e : (if j > i then j else i) = max i j := by split <;> omega
    rw [e]
    exact q.val rfl
  · obtain ⟨x, rfl, b1⟩ := b.inv1
    split at q
    · rename_i ns e
      have e := intsOf_eq e
      subst e
      obtain ⟨a, vs, rfl, h1, h2⟩ := b1.lst
      rw [h2.ints] at h1
      refine .inr ⟨a, _, rfl, .inl h1, by simp, fun m hm hle => ?_⟩
      obtain ⟨k1, k2⟩ := maxI_mem (ns := _ :: _) (by simp)
      have e := Int.le_antisymm (k2 m hm) (hle _ k1)
      rw [e]
      exact q.val rfl
    · exact q.elim
  · exact q.elim
theorem c_min (hc : X.calm = true) : CallR X (.builtin "min") (rN κ gMin) := by
  refine CallR.imp (CallR.or (call_min2 hc) (cr_min hc)) ?_
  rintro xs H Q ⟨F, ds, ft, b, q⟩
  unfold gMin at q
  split at q
  · obtain ⟨x, y, rfl, b1, b2⟩ := b.inv2
    rename_i i j
    refine .inl ⟨i, j, by rw [b1.int, b2.int], ?_⟩
    have e : (if j < i then j else i) = min i j := by split <;> omega
    rw [e]
    exact q.val rfl
  · obtain ⟨x, rfl, b1⟩ := b.inv1
    split at q
    · rename_i ns e
      have e := intsOf_eq e
      subst e
      obtain ⟨a, vs, rfl, h1, h2⟩ := b1.lst
      rw [h2.ints] at h1
      refine .inr ⟨a, _, rfl, .inl h1, by simp, fun m hm hle => ?_⟩
      obtain ⟨k1, k2⟩ := minI_mem (ns := _ :: _) (by simp)
      have e := Int.le_antisymm (hle _ k1) (k2 m hm)
      rw [e]
      exact q.val rfl
    · exact q.elim
  · exact q.elim
theorem c_list : CallR X (.type "list") (rN κ (un gList)) := by
  refine CallR.imp call_list_of fun xs H Q h => ?_
  obtain ⟨F, d, x, ft, rfl, b, q⟩ := bN1 h
  cases d with
  | lst ds =>
    obtain ⟨a, vs, rfl, h1, h2⟩ := b.lst
    exact ⟨a, vs, rfl, .inl (.inl h1), fun l hl => q.lst ft h2 hl⟩
  | tup ds =>
    obtain ⟨a, vs, rfl, _, h1, h2⟩ := b.tup
    exact ⟨a, vs, rfl, .inr (.inl h1), fun l hl => q.lst ft h2 hl⟩
  | _ => exact q.elim
theorem c_tuple : CallR X (.type "tuple") (rN κ (un gTuple)) := by
  refine CallR.imp call_tuple_of fun xs H Q h => ?_
  obtain ⟨F, d, x, ft, rfl, b, q⟩ := bN1 h
  cases d with
  | lst ds =>
    obtain ⟨a, vs, rfl, h1, h2⟩ := b.lst
    exact ⟨a, vs, rfl, .inl ⟨.inl h1, fun l hl => q.tup h2 hl⟩⟩
  | tup ds =>
    obtain ⟨a, vs, rfl, fa, h1, h2⟩ := b.tup
    exact ⟨a, vs, rfl, .inr ⟨.inl h1, q.val ⟨a, vs, rfl, fa, h1, h2⟩⟩⟩
  | _ => exact q.elim
theorem c_sum (hc : X.calm = true) : CallR X (.builtin "sum") (rN κ gSum) := by
  refine CallR.imp (cr_sum hc) ?_
  rintro xs H Q ⟨F, ds, ft, b, q⟩
  unfold gSum at q
  split at q
  · obtain ⟨x, rfl, b1⟩ := b.inv1
    split at q
    · rename_i ns e
      have e := intsOf_eq e
      subst e
      obtain ⟨a, vs, rfl, h1, h2⟩ := b1.lst
      rw [h2.ints] at h1
      exact ⟨a, _, rfl, .inl h1, q.val rfl⟩
    · exact q.elim
  · exact q.elim
theorem c_all (hc : X.calm = true) : CallR X (.builtin "all") (rN κ gAll) := by
  refine CallR.imp (cr_all hc) ?_
  rintro xs H Q ⟨F, ds, ft, b, q⟩
  unfold gAll at q
  split at q
  · obtain ⟨x, rfl, b1⟩ := b.inv1
    split at q
    · rename_i ns e
      have e := blsOf_eq e
      subst e
      obtain ⟨a, vs, rfl, h1, h2⟩ := b1.lst
      rw [h2.bls] at h1
      exact ⟨a, _, rfl, .inl h1, q.val rfl⟩
    · exact q.elim
  · exact q.elim
theorem c_str : CallR X (.type "str") (rN κ (un gStr)) := by
  refine CallR.imp (CallR.or call_str_int SkE.call_str_str) fun xs H Q h => ?_
  obtain ⟨F, d, x, ft, rfl, b, q⟩ := bN1 h
  cases d with
  | int i =>
    by_cases hz : i.natAbs.log2 < 1920
    · rw [gStr, if_pos hz] at q
      exact .inl ⟨i, by rw [b.int], hz, q.val rfl⟩
    · rw [gStr, if_neg hz] at q; exact q.elim
  | str i => exact .inr ⟨i, by rw [b.str], q.val rfl⟩
  | _ => exact q.elim
theorem Rep.isRef {F : Addr → Prop} {H : Hp} : ∀ {d : D} {v : V}, Rep κ F H d v → (∃ a, v = .ref a) ∨ (d = .non) ∨ (∃ b, d = .bl b) ∨ (∃ i, d = .int i) ∨ ∃ x, d = .str x
  | .non, _, _ => .inr (.inl rfl)
  | .bl b, _, _ => .inr (.inr (.inl ⟨b, rfl⟩))
  | .int b, _, _ => .inr (.inr (.inr (.inl ⟨b, rfl⟩)))
  | .str b, _, _ => .inr (.inr (.inr (.inr ⟨b, rfl⟩)))
  | .tup _, _, h => by obtain ⟨a, _, e, _⟩ := h; exact .inl ⟨a, e⟩
  | .lst _, _, h => by obtain ⟨a, _, e, _⟩ := h; exact .inl ⟨a, e⟩
  | .dct _ _, _, h => by obtain ⟨a, _, e, _⟩ := h; exact .inl ⟨a, e⟩
  | .ins _ _ _, _, h => by obtain ⟨a, _, _, _, e, _⟩ := h; exact .inl ⟨a, e⟩
theorem c_repr (hu : X.A.units + 64 < cLine) (hg : X.A.guards = some []) : CallR X (.builtin "repr") (rN κ (un gRepr)) := by
  intro pins s σ H xs us Q I r h
  obtain ⟨F, d, x, ft, rfl, b, q⟩ := bN1 h
  by_cases hz : d.noIns = true ∧ (d.flat = true ∨ d.noLst = true) ∧ d.py.showable = true ∧ d.py.depth ≤ 60 ∧ d.py.shown.length ≤ sizeLine
  · rw [gRepr, if_pos hz] at q
    obtain ⟨z1, z2, z3, z4, z5⟩ := hz
    obtain ⟨u, rfl, rx⟩ := vals1 r
    have q := q.val rfl
    obtain ⟨G, hr⟩ := b.rep
    obtain ⟨as, rd, ns⟩ := Rep.reads I d x u z1 hr rx
    rcases hr.isRef with ⟨a, rfl⟩ | rfl | ⟨k, rfl⟩ | ⟨k, rfl⟩ | ⟨k, rfl⟩
    · cases rx
      refine repr_of_reads' rd z3 (fun hd => ?_) hg (by omega) (fun _ _ e => e) (fun h' u tk hk => ⟨.str _, H, I.kept hk, ⟨_, rfl⟩, q⟩) z5
      rcases z2 with z2 | z2
      · rw [D.noDict d z2] at hd; cases hd
      · exact ns z2
    · rw [b.non] at rx; cases rx
      exact P.repr_of_none ⟨.str _, H, I.tok _, ⟨_, rfl⟩, q⟩
    · rw [b.bl] at rx; cases rx
      exact P.repr_of_bool ⟨.str _, H, I.tok _, ⟨_, rfl⟩, q⟩
    · rw [b.int] at rx; obtain ⟨t, rfl⟩ := rx
      have z3 : decide (k.natAbs.log2 < 1920) = true := z3
      exact P.repr_of_int (of_decide_eq_true z3) ⟨.str _, H, I.tok _, ⟨_, rfl⟩, q⟩
    · rw [b.str] at rx; obtain ⟨t, rfl⟩ := rx
      exact P.repr_of_str ⟨.str _, H, I.tok _, ⟨_, rfl⟩, q⟩ z5
  · rw [gRepr, if_neg hz] at q; exact q.elim
end
end JM

namespace JM
open PySem PySem.Spec L2

/-! ### places, slices -/
def gIx : D → D → Op
  | .lst xs, .int i => match atI xs i with
    | some d => .val d
    | none => .bad
  | .tup xs, .int i => match atI xs i with
    | some d => .val d
    | none => .bad
  | .str z, .int i => if z.length ≤ sizeLine then match atI z.cps.toList i with
      | some c => .val (.str ⟨#[c]⟩)
      | none => .bad
    else .bad
  | _, _ => .bad
def cutD (xs : List D) (lo hi : Option Int) : List D := (xs.drop (HT.sIx xs.length 0 lo)).take (HT.sIx xs.length xs.length hi - HT.sIx xs.length 0 lo)
def gSl : D → Option Int → Option Int → Op
  | .lst xs, lo, hi => .new (.lst (cutD xs lo hi))
  | .tup xs, lo, hi => .val (.tup (cutD xs lo hi))
  | .str z, lo, hi => if z.length ≤ sizeLine then .val (.str (cutS z lo hi)) else .bad
  | _, _, _ => .bad
def strsOf (xs : List D) : Op → Op := fun o => match strsOf? xs with
  | some _ => o
  | none => .bad
def gJoin : D → D → Op
  | .str a, .lst xs => match strsOf? xs with
    | some ys => if (ys.map (·.length)).sum + ys.length * a.length ≤ 16777216 then .val (.str (Txt.join a ys)) else .bad
    | none => .bad
  | .str a, .tup xs => match strsOf? xs with
    | some ys => if (ys.map (·.length)).sum + ys.length * a.length ≤ 16777216 then .val (.str (Txt.join a ys)) else .bad
    | none => .bad
  | _, _ => .bad
section
variable {κ : Nat → Addr} {X : Cx} {F : Addr → Prop} {H : Hp}
theorem Reps.atI {ds : List D} {vs : List V} {i : Int} {d : D} (h : Reps κ F H ds vs) (e : atI ds i = some d) : ∃ v, L2.atI vs i = some v ∧ Rep κ F H d v := by
  unfold L2.atI at e ⊢
  rw [h.length]
  cases q : ixN ds.length i with
  | none => rw [q] at e; cases e
  | some j => rw [q] at e; exact h.get (i := j) e
theorem Reps.cut {ds : List D} {vs : List V} {lo hi : Option Int} (h : Reps κ F H ds vs) : Reps κ F H (cutD ds lo hi) (cutV vs lo hi) := by
  unfold cutD cutV
  rw [h.length]
  exact (h.drop _).take _
theorem ix_d : IxR X (r2 κ gIx) := by
  intro value slice pins s σ H x y v u Q I rx ry h hs
  obtain ⟨F, d, e, ft, bd, be, q⟩ := h
  refine ix_seq value slice pins s σ H x y v u Q I rx ry ?_ hs
  cases d with
  | lst xs =>
    cases e with
    | int i =>
      obtain ⟨a, vs, rfl, h1, h2⟩ := bd.lst
      cases z : atI xs i with
      | none => simp only [gIx, z] at q; exact q.elim
      | some d =>
        simp only [gIx, z] at q
        obtain ⟨w, k1, k2⟩ := h2.atI z
        exact .inl ⟨a, vs, i, w, rfl, be.int, .inl h1, k1, q.val k2⟩
    | _ => exact q.elim
  | tup xs =>
    cases e with
    | int i =>
      obtain ⟨a, vs, rfl, _, h1, h2⟩ := bd.tup
      cases z : atI xs i with
      | none => simp only [gIx, z] at q; exact q.elim
      | some d =>
        simp only [gIx, z] at q
        obtain ⟨w, k1, k2⟩ := h2.atI z
        exact .inr (.inl ⟨a, vs, i, w, rfl, be.int, .inl h1, k1, q.val k2⟩)
    | _ => exact q.elim
  | str xs =>
    cases e with
    | int i =>
      by_cases hz : xs.length ≤ sizeLine
      · cases z : atI xs.cps.toList i with
        | none => simp only [gIx, if_pos hz, z] at q; exact q.elim
        | some d =>
          simp only [gIx, if_pos hz, z] at q
          exact .inr (.inr ⟨xs, i, d, bd.str, be.int, hz, z, q.val rfl⟩)
      · simp only [gIx, if_neg hz] at q; exact q.elim
    | _ => exact q.elim
  | _ => exact q.elim
/-- a slice's reading -/
def rSl (κ : Nat → Addr) (g : D → Option Int → Option Int → Op) : V → Option Int → Option Int → Hp → VK → Prop := fun x lo hi H Q => ∃ F d, FTrk F H ∧ Bor κ F H d x ∧ PostO κ F H (g d lo hi) Q
theorem whole_cut {xs : List D} {lo hi : Option Int} (h : HT.sIx xs.length 0 lo = 0 ∧ HT.sIx xs.length xs.length hi = xs.length) : cutD xs lo hi = xs := by
  unfold cutD
  rw [h.1, h.2]
  simp
theorem sl_d : SlR X (rSl κ gSl) := by
  intro pins s σ H x v vl vu lo hi sl Q I rx hs pl pu h
  obtain ⟨F, d, ft, bd, q⟩ := h
  refine (sl_list.or (sl_tupA.or sl_str)) pins s σ H x v vl vu lo hi sl Q I rx hs pl pu ?_
  cases d with
  | lst xs =>
    obtain ⟨a, vs, rfl, h1, h2⟩ := bd.lst
    exact .inl ⟨a, vs, rfl, .inl h1, fun p hp => q.lst ft h2.cut hp⟩
  | tup xs =>
    obtain ⟨a, vs, rfl, fa, h1, h2⟩ := bd.tup
    refine .inr (.inl ⟨a, vs, rfl, .inl h1, fun hw => ?_, fun _ p hp => q.tup h2.cut hp⟩)
    rw [h2.length] at hw
    refine q.val ⟨a, vs, rfl, fa, h1, ?_⟩
    rw [whole_cut hw]
    exact h2
  | str xs =>
    by_cases hz : xs.length ≤ sizeLine
    · simp only [gSl, if_pos hz] at q
      exact .inr (.inr ⟨xs, bd.str, hz, q.val rfl⟩)
    · simp only [gSl, if_neg hz] at q; exact q.elim
  | _ => exact q.elim
/-- a method's reading: the receiver, one argument -/
def rMt (κ : Nat → Addr) (g : D → List D → Op) : V → List V → Hp → VK → Prop := fun x xs H Q => ∃ F d ds, FTrk F H ∧ Bor κ F H d x ∧ Bors κ F H ds xs ∧ PostO κ F H (g d ds) Q
def un2 (g : D → D → Op) : D → List D → Op
  | d, [e] => g d e
  | _, _ => .bad
theorem mt_joinD : MtR X "str.join" (rMt κ (un2 gJoin)) := by
  intro pins s σ H x xs v us Q I rx rxs h
  obtain ⟨F, d, ds, ft, bd, bs, q⟩ := h
  refine mt_join pins s σ H x xs v us Q I rx rxs ?_
  match ds, bs, q with
  | [], bs, q => cases d <;> exact q.elim
  | [e], bs, q =>
    obtain ⟨y, ey, b'⟩ := bs.inv1
    subst ey
    cases d with
    | str a =>
      have q1 : PostO κ F H (gJoin (.str a) e) Q := q
      clear q
      cases e with
      | lst xs =>
        obtain ⟨p, vs, rfl, h1, h2⟩ := b'.lst
        cases z : strsOf? xs with
        | none => simp only [gJoin, z] at q1; exact q1.elim
        | some ys =>
          by_cases hz : (ys.map (·.length)).sum + ys.length * a.length ≤ 16777216
          · simp only [gJoin, z, if_pos hz] at q1
            have e := strsOf_eq z
            subst e
            rw [h2.strs] at h1
            exact ⟨a, p, ys, bd.str, rfl, .inl (.inl h1), hz, q1.val rfl⟩
          · simp only [gJoin, z, if_neg hz] at q1; exact q1.elim
      | tup xs =>
        obtain ⟨p, vs, rfl, _, h1, h2⟩ := b'.tup
        cases z : strsOf? xs with
        | none => simp only [gJoin, z] at q1; exact q1.elim
        | some ys =>
          by_cases hz : (ys.map (·.length)).sum + ys.length * a.length ≤ 16777216
          · simp only [gJoin, z, if_pos hz] at q1
            have e := strsOf_eq z
            subst e
            rw [h2.strs] at h1
            exact ⟨a, p, ys, bd.str, rfl, .inr (.inl h1), hz, q1.val rfl⟩
          · simp only [gJoin, z, if_neg hz] at q1; exact q1.elim
      | _ => exact q1.elim
    | _ => exact q.elim
  | _ :: _ :: _, bs, q => cases d <;> exact q.elim

/-! ### isinstance of a built-in type -/
def tyName : D → Option String
  | .non => some "NoneType"
  | .bl _ => some "bool"
  | .int _ => some "int"
  | .str _ => some "str"
  | .tup _ => some "tuple"
  | .lst _ => some "list"
  | .dct _ _ => some "dict"
  | .ins _ _ _ => none
def gIsi (T : String) (d : D) : Op := match tyName d with
  | some n => match kitB n T with
    | some b => .val (.bl b)
    | none => .bad
  | none => .bad
theorem tyX {K : PySem.W.Frag} {d : D} {v : V} {n : String} (b : Bor κ F H d v) (h : tyName d = some n) : TyX K H v (.type n) := by
  cases d with
  | non => cases h; rw [b.non]; exact .base .non
  | bl i => cases h; rw [b.bl]; exact .base (.bl i)
  | int i => cases h; rw [b.int]; exact .base (.int i)
  | str i => cases h; rw [b.str]; exact .base (.str i)
  | tup i =>
    cases h
    obtain ⟨a, vs, rfl, _, h1, _⟩ := b.tup
    rcases h1 with h1 | ⟨o, h1⟩
    · exact .base (.tup h1)
    · exact .fTuple h1
  | lst i =>
    cases h
    obtain ⟨a, vs, rfl, h1, _⟩ := b.lst
    rcases h1 with h1 | ⟨o, h1⟩
    · exact .base (.lst h1)
    · exact .base (.frz h1)
  | dct i j =>
    cases h
    obtain ⟨a, vs, rfl, _, h1⟩ := b.dct
    rcases h1 with ⟨kvs, h1, _⟩ | ⟨kvs, h1, _⟩
    · exact .base (.dK h1)
    · exact .base (.dT h1)
  | ins i j k => cases h
/-- the reading of isinstance(x, T), the class as it comes -/
theorem c_isi {xs : List V} {Q : VK} (T : String) (h : ∃ x, xs = [x, .ty T] ∧ r1 κ (gIsi T) x H Q) : rIsi X.K xs H Q := by
  obtain ⟨x, rfl, F, d, ft, b, q⟩ := h
  unfold gIsi at q
  cases e : tyName d with
  | none => rw [e] at q; exact q.elim
  | some n =>
    rw [e] at q
    simp only at q
    cases e2 : kitB n T with
    | none => rw [e2] at q; exact q.elim
    | some r =>
      rw [e2] at q
      exact ⟨x, .ty T, _, _, r, rfl, .ty T, tyX b e, kit_ty e2, q.val rfl⟩
end
end JM

namespace JM
open PySem PySem.Spec L2

/-! ### the judgement of expressions -/
def Res.bind {α β : Type} : Res α → (α → Slots → Res β) → Res β
  | .ok a ρ, f => f a ρ
  | .rai x ρ, _ => .rai x ρ
  | .bad, _ => .bad
abbrev ME := Slots → Res RV
abbrev MT := Slots → Res Bool
abbrev MA := Slots → Res (List RV)
abbrev MO := Slots → Res (Option Int)
section
variable (κ : Nat → Addr) (W : WX)
/-- what holds behind an evaluation -/
def Post {α : Type} (F : Addr → Prop) (σ : L2.St) (H : Hp) (ρ : Slots) (res : Res α) (k : α → (Addr → Prop) → Hp → Slots → Prop) : Prop := match res with
  | .ok a ρ' => ∀ F' H', Stp F σ H ρ F' σ H' ρ' → EnvOk κ F' σ H' ρ' → k a F' H' ρ'
  | .rai x ρ' => ∀ c o F' H', Stp F σ H ρ F' σ H' ρ' → EnvOk κ F' σ H' ρ' → XRep κ F' H' x c o → W c o σ H'
  | .bad => False
def tE (m : ME) : TE := fun σ H Q => ∃ F ρ, EnvOk κ F σ H ρ ∧ Post κ W F σ H ρ (m ρ) fun r F' H' ρ' => ∀ v, RRep κ F' σ H H' ρ' v r → Q v H'
def tT (m : MT) : TT := fun σ H Q => ∃ F ρ, EnvOk κ F σ H ρ ∧ Post κ W F σ H ρ (m ρ) fun b _ H' _ => Q b H'
def frA (r : RV) (v : V) (a : Addr) : Prop := ∃ d, r = .fr d ∧ v = .ref a
def FrAs (rs : List RV) (vs : List V) (a : Addr) : Prop := ∃ (i : Nat) (d : D), rs[i]? = some (.fr d) ∧ vs[i]? = some (.ref a)
def RReps (F : Addr → Prop) (σ : L2.St) (H₀ H : Hp) (ρ : Slots) : List RV → List V → Prop
  | [], vs => vs = []
  | r :: rs, vs => ∃ v ws, vs = v :: ws ∧ RRep κ F σ H₀ H ρ v r ∧ RReps F σ H₀ H ρ rs ws ∧ ∀ a, frA r v a → ¬ FrAs rs ws a
def tA (m : MA) : TA := fun σ H Q => ∃ F ρ, EnvOk κ F σ H ρ ∧ Post κ W F σ H ρ (m ρ) fun rs F' H' ρ' => ∀ vs, RReps κ F' σ H H' ρ' rs vs → Q vs H'
def tO (m : MO) : TO := fun σ H Q => ∃ F ρ, EnvOk κ F σ H ρ ∧ Post κ W F σ H ρ (m ρ) fun b _ H' _ => Q b H'
end
section
variable {κ : Nat → Addr} {W : WX} {α β : Type} {F F1 F' F2 : Addr → Prop} {σ : L2.St} {H H1 H' H2 H₀ : Hp} {ρ ρ1 ρ' ρ2 : Slots} {res : Res α} {k k' : α → (Addr → Prop) → Hp → Slots → Prop}
theorem Post.after (s : Stp F σ H ρ F1 σ H1 ρ1) (h : Post κ W F σ H ρ res k) : Post κ W F1 σ H1 ρ1 res k := by
  cases res with
  | ok a ρ' => exact fun F' H' t e => h F' H' (s.trans t) e
  | rai x ρ' => exact fun c o F' H' t e q => h c o F' H' (s.trans t) e q
  | bad => exact h.elim
theorem Post.mono (h : Post κ W F σ H ρ res k) (q : ∀ a F' H' ρ', Stp F σ H ρ F' σ H' ρ' → EnvOk κ F' σ H' ρ' → k a F' H' ρ' → k' a F' H' ρ') : Post κ W F σ H ρ res k' := by
  cases res with
  | ok a ρ' => exact fun F' H' t e => q a F' H' ρ' t e (h F' H' t e)
  | rai x ρ' => exact h
  | bad => exact h.elim
theorem Post.bind {f : α → Slots → Res β} {k : β → (Addr → Prop) → Hp → Slots → Prop} (h : Post κ W F σ H ρ (res.bind f) k)
    (q : ∀ a F' H' ρ', Stp F σ H ρ F' σ H' ρ' → EnvOk κ F' σ H' ρ' → Post κ W F' σ H' ρ' (f a ρ') k → k' a F' H' ρ') : Post κ W F σ H ρ res k' := by
  cases res with
  | ok a ρ' => exact fun F' H' t e => q a F' H' ρ' t e (Post.after t h)
  | rai x ρ' => exact h
  | bad => exact h.elim

theorem RReps.rrep_mono (s : Stp F σ H ρ F' σ H' ρ') (e : EnvOk κ F σ H ρ) : ∀ {rs : List RV} {vs : List V}, RReps κ F σ H₀ H ρ rs vs → RReps κ F' σ H₀ H' ρ' rs vs
  | [], _, h => h
  | r :: rs, _, ⟨v, ws, e1, h1, h2, h3⟩ => ⟨v, ws, e1, s.rrep e h1, RReps.rrep_mono s e h2, h3⟩
theorem RReps.early {H₁ : Hp} (k : ∀ a, H₁ a = none → H₀ a = none) : ∀ {rs : List RV} {vs : List V}, RReps κ F σ H₁ H ρ rs vs → RReps κ F σ H₀ H ρ rs vs
  | [], _, h => h
  | r :: rs, _, ⟨v, ws, e1, h1, h2, h3⟩ => ⟨v, ws, e1, RRep.early k h1, RReps.early k h2, h3⟩
theorem RReps.get : ∀ {rs : List RV} {vs : List V} {i : Nat} {r : RV}, RReps κ F σ H₀ H ρ rs vs → rs[i]? = some r → ∃ v, vs[i]? = some v ∧ RRep κ F σ H₀ H ρ v r
  | [], _, _, _, _, e => by simp at e
  | r :: rs, _, 0, _, ⟨v, ws, e1, h1, h2, h3⟩, e => by
    simp at e; subst e; subst e1
    exact ⟨v, rfl, h1⟩
  | r :: rs, _, i + 1, _, ⟨v, ws, e1, h1, h2, h3⟩, e => by
    subst e1
    obtain ⟨w, k1, k2⟩ := RReps.get (i := i) h2 (by simpa using e)
    exact ⟨w, by simpa using k1, k2⟩
theorem RReps.length : ∀ {rs : List RV} {vs : List V}, RReps κ F σ H₀ H ρ rs vs → vs.length = rs.length
  | [], _, h => by rw [show _ = ([] : List V) from h]; rfl
  | r :: rs, _, ⟨v, ws, e1, h1, h2, h3⟩ => by rw [e1, List.length_cons, List.length_cons, RReps.length h2]
theorem RReps.frs {rs : List RV} {vs : List V} {a : Addr} (h : RReps κ F σ H₀ H ρ rs vs) (q : FrAs rs vs a) : H₀ a = none ∧ ¬ F a ∧ ¬ OwnS σ ρ a ∧ H a ≠ none := by
  obtain ⟨i, d, h1, h2⟩ := q
  obtain ⟨v, k1, b, k2, k3, k4, k5, k6⟩ := h.get h1
  rw [h2] at k1; cases k1; cases k2
  obtain ⟨u, hu⟩ := k6.some
  exact ⟨k5, k3, k4, by rw [hu]; simp⟩
/-- a value, and then others -/
theorem RReps.cons (s : Stp F1 σ H1 ρ1 F2 σ H2 ρ2) (e : EnvOk κ F1 σ H1 ρ1) (k : ∀ a, H1 a = none → H a = none) {r : RV} {rs : List RV} {v : V} {vs : List V} (h : RRep κ F1 σ H H1 ρ1 v r) (t : RReps κ F2 σ H1 H2 ρ2 rs vs) :
    RReps κ F2 σ H H2 ρ2 (r :: rs) (v :: vs) := by
  refine ⟨v, vs, rfl, s.rrep e h, t.early k, ?_⟩
  rintro a ⟨d, rfl, rfl⟩ q
  obtain ⟨b, e1, _, _, _, k6⟩ := h
  cases e1
  obtain ⟨u, hu⟩ := k6.some
  have := (t.frs q).1
  rw [hu] at this; cases this
theorem Stp.early (s : Stp F σ H ρ F1 σ H1 ρ1) : ∀ a, H1 a = none → H a = none := fun a => s.none_of

/-! ### operations behind evaluations -/
def opRes (o : Op) (ρ : Slots) : Res RV := match o with
  | .val d => .ok (.pu d) ρ
  | .new d => .ok (.fr d) ρ
  | .bad => .bad
theorem opPost {op : Op} {Q : VK} (s : Stp F σ H ρ F1 σ H1 ρ1) (e : EnvOk κ F1 σ H1 ρ1) (h : Post κ W F1 σ H1 ρ1 (opRes op ρ1) fun r F' H' ρ' => ∀ v, RRep κ F' σ H H' ρ' v r → Q v H') : PostO κ F1 H1 op Q := by
  cases op with
  | val d => exact fun z F' H' g r => h F' H' g.stp (g.env e) z r
  | new d =>
    intro a F' H' g nf hn o
    refine h F' H' g.stp (g.env e) (.ref a) ⟨a, rfl, nf, ?_, s.early a hn, o⟩
    exact fun q => (e.ownF q).2 hn
  | bad => exact h.elim
end

/-! ### the combinators -/
def mVar (i : Nat) : ME := fun ρ => match ρ[i]? with
  | some (.pu d) => .ok (.pu d) ρ
  | some (.pf d) => .ok (.pu d) ρ
  | some (.ob _ _ _) => .ok (.nm i) ρ
  | _ => .bad
def mC (d : D) : ME := fun ρ => .ok (.pu d) ρ
def with1 (ρ : Slots) (r : RV) (g : D → Res RV) : Res RV := match r.cont ρ with
  | some d => g d
  | none => .bad
def mBin (g : D → D → Op) (a b : ME) : ME := fun ρ => (a ρ).bind fun r ρ1 => (b ρ1).bind fun r' ρ2 => with1 ρ2 r fun d => with1 ρ2 r' fun e => opRes (g d e) ρ2
def mUn (g : D → Op) (a : ME) : ME := fun ρ => (a ρ).bind fun r ρ1 => with1 ρ1 r fun d => opRes (g d) ρ1
def blOf (o : Op) (k : Bool → Res α) : Res α := match o with
  | .val (.bl b) => k b
  | _ => .bad
def mBl (a : ME) : MT := fun ρ => (a ρ).bind fun r ρ1 => match r.cont ρ1 with
  | some (.bl b) => .ok b ρ1
  | _ => .bad
def truD : D → Option Bool
  | .non => some false
  | .bl b => some b
  | .int i => some (i != 0)
  | .str y => if y.length ≤ sizeLine then some ((y.length : Int) != 0) else none
  | .lst xs => some (!xs.isEmpty)
  | .tup xs => some (!xs.isEmpty)
  | _ => none
def mTru (a : ME) : MT := fun ρ => (a ρ).bind fun r ρ1 => match r.cont ρ1 with
  | some d => match truD d with
    | some b => .ok b ρ1
    | none => .bad
  | none => .bad
def mAnd (a b : MT) : MT := fun ρ => (a ρ).bind fun c ρ1 => if c = true then b ρ1 else .ok false ρ1
def mOr (a b : MT) : MT := fun ρ => (a ρ).bind fun c ρ1 => if c = true then .ok true ρ1 else b ρ1
def mNot (a : MT) : MT := fun ρ => (a ρ).bind fun c ρ1 => .ok (!c) ρ1
def mAndV (a b : ME) : ME := fun ρ => (mBl a ρ).bind fun c ρ1 => if c = true then b ρ1 else .ok (.pu (.bl false)) ρ1
def mOrV (a b : ME) : ME := fun ρ => (mBl a ρ).bind fun c ρ1 => if c = true then .ok (.pu (.bl true)) ρ1 else b ρ1
def mNotV (a : ME) : ME := fun ρ => (mBl a ρ).bind fun c ρ1 => .ok (.pu (.bl (!c))) ρ1
def mIf (c : MT) (a b : ME) : ME := fun ρ => (c ρ).bind fun k ρ1 => if k = true then a ρ1 else b ρ1
def mChain (g g' : D → D → Op) (a b c : ME) : ME := fun ρ => (a ρ).bind fun r ρ1 => (b ρ1).bind fun r' ρ2 => with1 ρ2 r fun d => with1 ρ2 r' fun e => match g d e with
  | .val (.bl k) => if k = true then (c ρ2).bind fun r2 ρ3 => with1 ρ3 r' fun e' => with1 ρ3 r2 fun f => opRes (g' e' f) ρ3 else .ok (.pu (.bl false)) ρ2
  | _ => .bad
def mNil : MA := fun ρ => .ok [] ρ
def mCons (a : ME) (as : MA) : MA := fun ρ => (a ρ).bind fun r ρ1 => (as ρ1).bind fun rs ρ2 => .ok (r :: rs) ρ2
def conts (ρ : Slots) : List RV → Option (List D)
  | [] => some []
  | r :: rs => match r.cont ρ with
    | some d => match conts ρ rs with
      | some ds => some (d :: ds)
      | none => none
    | none => none
def mBi (g : List D → Op) (as : MA) : ME := fun ρ => (as ρ).bind fun rs ρ1 => match conts ρ1 rs with
  | some ds => opRes (g ds) ρ1
  | none => .bad
def mNoPart : MO := fun ρ => .ok none ρ
def mPart (a : ME) : MO := fun ρ => (a ρ).bind fun r ρ1 => match r.cont ρ1 with
  | some (.int i) => .ok (some i) ρ1
  | _ => .bad
def mSl (g : D → Option Int → Option Int → Op) (a : ME) (lo hi : MO) : ME := fun ρ => (a ρ).bind fun r ρ1 => (lo ρ1).bind fun l ρ2 => (hi ρ2).bind fun h ρ3 => with1 ρ3 r fun d => opRes (g d l h) ρ3
def mMt0 (g : D → List D → Op) (a : ME) : ME := fun ρ => (a ρ).bind fun r ρ1 => with1 ρ1 r fun d => opRes (g d []) ρ1
def mMt (g : D → List D → Op) (a : ME) (as : MA) : ME := fun ρ => (a ρ).bind fun r ρ1 => (as ρ1).bind fun rs ρ2 => with1 ρ2 r fun d => match conts ρ2 rs with
  | some ds => opRes (g d ds) ρ2
  | none => .bad

section
variable {κ : Nat → Addr} {W : WX} {F F1 F2 : Addr → Prop} {σ : L2.St} {H H1 H2 H₀ : Hp} {ρ ρ1 ρ2 : Slots} {X : Cx} {a b c e : Expr} {es : List Expr} {ma mb mc : ME} {ta tb tc : MT} {ms : MA} {pos : Pos}
theorem with1_post {α : Type} {r : RV} {g : D → Res RV} {k : RV → (Addr → Prop) → Hp → Slots → Prop} (h : Post κ W F σ H ρ (with1 ρ1 r g) k) : ∃ d, r.cont ρ1 = some d ∧ Post κ W F σ H ρ (g d) k := by
  unfold with1 at h
  cases e : r.cont ρ1 with
  | none => rw [e] at h; exact h.elim
  | some d => rw [e] at h; exact ⟨d, rfl, h⟩
theorem s_var {i : Nat} {x : Str} (hN : X.N[i]? = some x) (hv : Vis X.env.scope x) (hd : (x == ("__debug__" : Str)) = false) (hcd : (x == ("__classdict__" : Str)) = false) : PE X (.Name x pos) (tE κ W (mVar i)) := by
  refine PE.imp (pe_var hN hv hd hcd) ?_
  rintro σ H Q ⟨F, ρ, en, p⟩
  unfold mVar at p
  cases e : ρ[i]? with
  | none => rw [e] at p; exact p.elim
  | some sv =>
    rw [e] at p
    obtain ⟨v, h1, h2⟩ := en.sl i sv e
    cases sv with
    | un => exact p.elim
    | pu d => obtain ⟨w, rfl, h3⟩ := h2; exact ⟨w, h1, p F H .refl en w h3⟩
    | pf d => obtain ⟨w, rfl, h3⟩ := h2; exact ⟨w, h1, p F H .refl en w h3⟩
    | ob q l d => obtain ⟨w, rfl, h3⟩ := h2; exact ⟨.ref w, h1, p F H .refl en (.ref w) h1⟩
theorem s_c {d : D} {v : V} (he : PE X e (tC v)) (hr : ∀ F H, Rep κ F H d v) : PE X e (tE κ W (mC d)) := by
  refine PE.imp he ?_
  rintro σ H Q ⟨F, ρ, en, p⟩
  exact p F H .refl en v (hr F H)
theorem two_post {g : D → D → Op} {Q : VK} (h : tE κ W (mBin g ma mb) σ H Q) : tE κ W ma σ H fun x H1 => tE κ W mb σ H1 fun y H2 => r2 κ g x y H2 Q := by
  obtain ⟨F, ρ, en, p⟩ := h
  refine ⟨F, ρ, en, p.bind fun r F1 H1 ρ1 s1 e1 p1 v rv => ⟨F1, ρ1, e1, p1.bind fun r' F2 H2 ρ2 s2 e2 p2 w rw' => ?_⟩⟩
  obtain ⟨d, hd, p3⟩ := with1_post (α := Unit) p2
  obtain ⟨e, he, p4⟩ := with1_post (α := Unit) p3
  exact ⟨F2, d, e, e2.trk, (s2.rrep e1 rv).bor e2 hd, rw'.bor e2 he, opPost (s1.trans s2) e2 p4⟩
theorem s_bin {op : Operator} {g : D → D → Op} (ho : OpR X (binaryOp op) (r2 κ g)) (ha : PE X a (tE κ W ma)) (hb : PE X b (tE κ W mb)) : PE X (.BinOp a op b pos) (tE κ W (mBin g ma mb)) :=
  PE.imp (pe_op ho ha hb) fun σ H Q h => two_post h
theorem s_cmp {op : CmpOp} {g : D → D → Op} (ho : OpR X (compareOp op) (r2 κ g)) (ha : PE X a (tE κ W ma)) (hb : PE X b (tE κ W mb)) (hm : behindInMarks op b = false) : PE X (.Compare a [op] [b] pos) (tE κ W (mBin g ma mb)) :=
  PE.imp (pe_cmpR ho ha hb hm) fun σ H Q h => two_post h
theorem s_ix {g : D → D → Op} (ho : IxR X (r2 κ g)) (ha : PE X a (tE κ W ma)) (hb : PE X b (tE κ W mb)) (hs : PlainIx b) : PE X (.Subscript a b pos) (tE κ W (mBin g ma mb)) :=
  PE.imp (pe_ix ho ha hb hs) fun σ H Q h => two_post h
theorem s_un {op : UnaryOp} {g : D → Op} (ho : UnR X (unaryOp op) (r1 κ g)) (ha : PE X a (tE κ W ma)) : PE X (.UnaryOp op a pos) (tE κ W (mUn g ma)) := by
  refine PE.imp (pe_un ho ha) ?_
  rintro σ H Q ⟨F, ρ, en, p⟩
  refine ⟨F, ρ, en, p.bind fun r F1 H1 ρ1 s1 e1 p1 v rv => ?_⟩
  obtain ⟨d, hd, p3⟩ := with1_post (α := Unit) p1
  exact ⟨F1, d, e1.trk, rv.bor e1 hd, opPost s1 e1 p3⟩
/-! tests -/
theorem bl_post {Q : Bool → Hp → Prop} (h : tT κ W (mBl ma) σ H Q) : tE κ W ma σ H fun x H1 => ∃ k, x = .bl k ∧ Q k H1 := by
  obtain ⟨F, ρ, en, p⟩ := h
  refine ⟨F, ρ, en, p.bind fun r F1 H1 ρ1 s1 e1 p1 v rv => ?_⟩
  cases e : r.cont ρ1 with
  | none => rw [e] at p1; exact p1.elim
  | some d =>
    rw [e] at p1
    have bo := rv.bor e1 e
    cases d with
    | bl k => exact ⟨k, bo.bl, p1 F1 H1 .refl e1⟩
    | _ => exact p1.elim
theorem tru_post {Q : Bool → Hp → Prop} (h : tT κ W (mTru ma) σ H Q) : tE κ W ma σ H fun x H1 => ∃ k, TruV X.K x H1 k ∧ Q k H1 := by
  obtain ⟨F, ρ, en, p⟩ := h
  refine ⟨F, ρ, en, p.bind fun r F1 H1 ρ1 s1 e1 p1 v rv => ?_⟩
  cases e : r.cont ρ1 with
  | none => rw [e] at p1; exact p1.elim
  | some d =>
    rw [e] at p1
    have bo := rv.bor e1 e
    cases ht : truD d with
    | none => simp only [ht] at p1; exact p1.elim
    | some k =>
      simp only [ht] at p1
      refine ⟨k, ?_, p1 F1 H1 .refl e1⟩
      cases d with
      | non => cases ht; rw [bo.non]; rfl
      | bl i => cases ht; rw [bo.bl]; rfl
      | int i => cases ht; rw [bo.int]; rfl
      | str i =>
        rw [bo.str]
        by_cases hz : i.length ≤ sizeLine
        · simp only [truD, if_pos hz, Option.some.injEq] at ht; exact ⟨hz, ht.symm⟩
        · simp only [truD, if_neg hz] at ht; cases ht
      | lst xs =>
        cases ht
        obtain ⟨p, vs, rfl, h1, h2⟩ := bo.lst
        refine .inl ⟨vs, .inl h1, ?_⟩
        have := h2.length
        cases vs <;> cases xs <;> first | rfl | simp at this
      | tup xs =>
        cases ht
        obtain ⟨p, vs, rfl, _, h1, h2⟩ := bo.tup
        refine .inr (.inl ⟨vs, .inl h1, ?_⟩)
        have := h2.length
        cases vs <;> cases xs <;> first | rfl | simp at this
      | _ => cases ht
theorem s_tcmp {op : CmpOp} {g : D → D → Op} (ho : OpR X (compareOp op) (r2 κ g)) (ha : PE X a (tE κ W ma)) (hb : PE X b (tE κ W mb)) (hm : behindInMarks op b = false) : PT X (.Compare a [op] [b] pos) (tT κ W (mBl (mBin g ma mb))) :=
  PT.imp (pt_cmpR ho ha hb hm) fun σ H Q h => two_post (bl_post h)
theorem s_tru (ha : PE X a (tE κ W ma)) (he : ∀ whole, isTrue a X.env whole = (do let v ← whole; standAt a.pos; holding [v] (truthy v))) : PT X a (tT κ W (mTru ma)) :=
  PT.imp (pt_truth ha he) fun σ H Q h => tru_post (X := X) h
theorem s_and1 (ha : PT X a (tT κ W ta)) : PW X (.BoolOp .And [a] pos) (tT κ W ta) := pw_and1 ha
theorem s_or1 (ha : PT X a (tT κ W ta)) : PW X (.BoolOp .Or [a] pos) (tT κ W ta) := pw_or1 ha
theorem s_and {rest : List Expr} (ha : PT X a (tT κ W ta)) (hb : PW X (.BoolOp .And (b :: rest) pos) (tT κ W tb)) : PW X (.BoolOp .And (a :: b :: rest) pos) (tT κ W (mAnd ta tb)) := by
  refine PW.imp (pw_and ha hb) ?_
  rintro σ H Q ⟨F, ρ, en, p⟩
  refine ⟨F, ρ, en, p.bind fun k F1 H1 ρ1 s1 e1 p1 => ?_⟩
  show if k = true then _ else _
  cases k with
  | true => rw [if_pos rfl] at p1 ⊢; exact ⟨F1, ρ1, e1, p1⟩
  | false => rw [if_neg (by decide)] at p1 ⊢; exact p1 F1 H1 .refl e1
theorem s_or {rest : List Expr} (ha : PT X a (tT κ W ta)) (hb : PW X (.BoolOp .Or (b :: rest) pos) (tT κ W tb)) : PW X (.BoolOp .Or (a :: b :: rest) pos) (tT κ W (mOr ta tb)) := by
  refine PW.imp (pw_or ha hb) ?_
  rintro σ H Q ⟨F, ρ, en, p⟩
  refine ⟨F, ρ, en, p.bind fun k F1 H1 ρ1 s1 e1 p1 => ?_⟩
  show if k = true then _ else _
  cases k with
  | true => rw [if_pos rfl] at p1 ⊢; exact p1 F1 H1 .refl e1
  | false => rw [if_neg (by decide)] at p1 ⊢; exact ⟨F1, ρ1, e1, p1⟩
theorem s_not (ha : PT X a (tT κ W ta)) : PT X (.UnaryOp .Not a pos) (tT κ W (mNot ta)) := by
  refine PT.imp (pt_not ha) ?_
  rintro σ H Q ⟨F, ρ, en, p⟩
  exact ⟨F, ρ, en, p.bind fun k F1 H1 ρ1 s1 e1 p1 => p1 F1 H1 .refl e1⟩
theorem bl_bind {f : Bool → Slots → Res RV} {Q : VK} (h : ∃ F ρ, EnvOk κ F σ H ρ ∧ Post κ W F σ H ρ ((mBl ma ρ).bind f) fun r F' H' ρ' => ∀ v, RRep κ F' σ H H' ρ' v r → Q v H') :
    tE κ W ma σ H fun x H1 => ∃ k, x = .bl k ∧ ∃ F1 ρ1, EnvOk κ F1 σ H1 ρ1 ∧ Post κ W F1 σ H1 ρ1 (f k ρ1) fun r F' H' ρ' => ∀ v, RRep κ F' σ H1 H' ρ' v r → Q v H' := by
  obtain ⟨F, ρ, en, p⟩ := h
  refine bl_post (Q := fun k H1 => ∃ F1 ρ1, EnvOk κ F1 σ H1 ρ1 ∧ Post κ W F1 σ H1 ρ1 (f k ρ1) fun r F' H' ρ' => ∀ v, RRep κ F' σ H1 H' ρ' v r → Q v H') ⟨F, ρ, en, p.bind fun k F1 H1 ρ1 s1 e1 p1 => ?_⟩
  exact ⟨F1, ρ1, e1, p1.mono fun r F' H' ρ' _ _ q v rv => q v (rv.early s1.early)⟩
theorem s_vone {op : BoolOp} (ha : PE X a (tE κ W ma)) : PE X (.BoolOp op [a] pos) (tE κ W ma) := pe_one ha
theorem s_vand {rest : List Expr} (ha : PE X a (tE κ W ma)) (hb : PE X (.BoolOp .And (b :: rest) pos) (tE κ W mb)) : PE X (.BoolOp .And (a :: b :: rest) pos) (tE κ W (mAndV ma mb)) := by
  refine PE.imp (pe_and ha hb) fun σ H Q h => ?_
  obtain ⟨F, ρ, en, p⟩ := bl_bind h
  refine ⟨F, ρ, en, p.mono fun r F1 H1 ρ1 s1 e1 q v rv => ?_⟩
  obtain ⟨k, rfl, F2, ρ2, e2, p2⟩ := q v rv
  refine ⟨k, rfl, ?_⟩
  cases k with
  | true => rw [if_pos rfl] at p2 ⊢; exact ⟨F2, ρ2, e2, p2⟩
  | false => rw [if_neg (by decide)] at p2 ⊢; exact p2 F2 H1 .refl e2 _ rfl
theorem s_vor {rest : List Expr} (ha : PE X a (tE κ W ma)) (hb : PE X (.BoolOp .Or (b :: rest) pos) (tE κ W mb)) : PE X (.BoolOp .Or (a :: b :: rest) pos) (tE κ W (mOrV ma mb)) := by
  refine PE.imp (pe_or ha hb) fun σ H Q h => ?_
  obtain ⟨F, ρ, en, p⟩ := bl_bind h
  refine ⟨F, ρ, en, p.mono fun r F1 H1 ρ1 s1 e1 q v rv => ?_⟩
  obtain ⟨k, rfl, F2, ρ2, e2, p2⟩ := q v rv
  refine ⟨k, rfl, ?_⟩
  cases k with
  | true => rw [if_pos rfl] at p2 ⊢; exact p2 F2 H1 .refl e2 _ rfl
  | false => rw [if_neg (by decide)] at p2 ⊢; exact ⟨F2, ρ2, e2, p2⟩
theorem s_vnot (ha : PE X a (tE κ W ma)) : PE X (.UnaryOp .Not a pos) (tE κ W (mNotV ma)) := by
  refine PE.imp (pe_not ha) fun σ H Q h => ?_
  obtain ⟨F, ρ, en, p⟩ := bl_bind h
  refine ⟨F, ρ, en, p.mono fun r F1 H1 ρ1 s1 e1 q v rv => ?_⟩
  obtain ⟨k, rfl, F2, ρ2, e2, p2⟩ := q v rv
  exact ⟨k, rfl, p2 F2 H1 .refl e2 _ rfl⟩
theorem s_if {t : Expr} (hc : PT X t (tT κ W ta)) (ha : PE X a (tE κ W ma)) (hb : PE X b (tE κ W mb)) : PE X (.IfExp t a b pos) (tE κ W (mIf ta ma mb)) := by
  refine PE.imp (pe_ifExp hc ha hb) ?_
  rintro σ H Q ⟨F, ρ, en, p⟩
  refine ⟨F, ρ, en, p.bind fun k F1 H1 ρ1 s1 e1 p1 => ?_⟩
  cases k with
  | true => rw [if_pos rfl] at p1 ⊢; exact ⟨F1, ρ1, e1, p1.mono fun r F' H' ρ' _ _ q v rv => q v (rv.early s1.early)⟩
  | false => rw [if_neg (by decide)] at p1 ⊢; exact ⟨F1, ρ1, e1, p1.mono fun r F' H' ρ' _ _ q v rv => q v (rv.early s1.early)⟩
theorem chain_post {g g' : D → D → Op} {Q : VK} (h : tE κ W (mChain g g' ma mb mc) σ H Q) : tChain (r2 κ g) (r2 κ g') (tE κ W ma) (tE κ W mb) (tE κ W mc) σ H Q := by
  obtain ⟨F, ρ, en, p⟩ := h
  refine ⟨F, ρ, en, p.bind fun r F1 H1 ρ1 s1 e1 p1 v rv => ⟨F1, ρ1, e1, p1.bind fun r' F2 H2 ρ2 s2 e2 p2 w rw' => ?_⟩⟩
  obtain ⟨d, hd, p3⟩ := with1_post (α := Unit) p2
  obtain ⟨e, he, p4⟩ := with1_post (α := Unit) p3
  refine ⟨F2, d, e, e2.trk, (s2.rrep e1 rv).bor e2 hd, rw'.bor e2 he, ?_⟩
  cases hg : g d e with
  | new d => rw [hg] at p4; exact p4.elim
  | bad => rw [hg] at p4; exact p4.elim
  | val d =>
    rw [hg] at p4
    cases d with
    | bl k =>
      intro z F3 H3 gr hz
      have s3 : Stp F2 σ H2 ρ2 F3 σ H3 ρ2 := gr.stp
      have e3 : EnvOk κ F3 σ H3 ρ2 := gr.env e2
      refine ⟨k, hz, ?_⟩
      have p4 := Post.after s3 p4
      cases k with
      | true =>
        simp only [if_true] at p4 ⊢
        refine ⟨F3, ρ2, e3, p4.bind fun r2 F4 H4 ρ4 s4 e4 p5 u ru => ?_⟩
        obtain ⟨d', hd', p6⟩ := with1_post (α := Unit) p5
        obtain ⟨f, hf, p7⟩ := with1_post (α := Unit) p6
        exact ⟨F4, d', f, e4.trk, (s4.rrep e3 (s3.rrep e2 rw')).bor e4 hd', ru.bor e4 hf, opPost (s1.trans (s2.trans (s3.trans s4))) e4 p7⟩
      | false => exact p4 F3 H3 .refl e3 _ rfl
    | _ => exact p4.elim
theorem s_chain {op op' : CmpOp} {g g' : D → D → Op} (ho : OpR X (compareOp op) (r2 κ g)) (ho' : OpR X (compareOp op') (r2 κ g')) (ha : PE X a (tE κ W ma)) (hb : PE X b (tE κ W mb)) (hc : PE X c (tE κ W mc)) (hm : lastMarks [op, op'] [b, c] = false) :
    PE X (.Compare a [op, op'] [b, c] pos) (tE κ W (mChain g g' ma mb mc)) := PE.imp (pe_chain ho ho' ha hb hc hm) fun σ H Q h => chain_post h
theorem s_tchain {op op' : CmpOp} {g g' : D → D → Op} (ho : OpR X (compareOp op) (r2 κ g)) (ho' : OpR X (compareOp op') (r2 κ g')) (ha : PE X a (tE κ W ma)) (hb : PE X b (tE κ W mb)) (hc : PE X c (tE κ W mc)) (hm : lastMarks [op, op'] [b, c] = false) :
    PT X (.Compare a [op, op'] [b, c] pos) (tT κ W (mBl (mChain g g' ma mb mc))) := PT.imp (pt_chain ho ho' ha hb hc hm) fun σ H Q h => chain_post (bl_post h)
/-! arguments -/
theorem s_nil : PA X [] (tA κ W mNil) := by
  refine PA.imp pa_nil ?_
  rintro σ H Q ⟨F, ρ, en, p⟩
  exact p F H .refl en [] rfl
theorem s_cons (ha : PE X a (tE κ W ma)) (hr : PA X es (tA κ W ms)) (hs : starEach (a :: es) X.env = (false, eval a X.env) :: starEach es X.env) : PA X (a :: es) (tA κ W (mCons ma ms)) := by
  refine PA.imp (pa_cons ha hr hs) ?_
  rintro σ H Q ⟨F, ρ, en, p⟩
  refine ⟨F, ρ, en, p.bind fun r F1 H1 ρ1 s1 e1 p1 v rv => ⟨F1, ρ1, e1, p1.bind fun rs F2 H2 ρ2 s2 e2 p2 vs rvs => ?_⟩⟩
  exact p2 F2 H2 .refl e2 (v :: vs) (RReps.cons s2 e1 s1.early rv rvs)
theorem RReps.bors : ∀ {rs : List RV} {vs : List V} {ds : List D}, EnvOk κ F σ H ρ → RReps κ F σ H₀ H ρ rs vs → conts ρ rs = some ds → Bors κ F H ds vs
  | [], vs, ds, en, h, e => by cases e; exact h
  | r :: rs, vs, ds, en, ⟨v, ws, e1, h1, h2, h3⟩, e => by
    unfold conts at e
    cases hc : r.cont ρ with
    | none => rw [hc] at e; cases e
    | some d =>
      rw [hc] at e
      cases hc2 : conts ρ rs with
      | none => simp only [hc2] at e; cases e
      | some es =>
        simp only [hc2] at e
        cases e
        subst e1
        exact .cons (h1.bor en hc) (RReps.bors en h2 hc2)
theorem bi_post {g : List D → Op} {Q : VK} (h : tE κ W (mBi g ms) σ H Q) : tCB (rN κ g) (tA κ W ms) σ H Q := by
  obtain ⟨F, ρ, en, p⟩ := h
  refine ⟨F, ρ, en, p.bind fun rs F1 H1 ρ1 s1 e1 p1 vs rvs => ?_⟩
  cases hc : conts ρ1 rs with
  | none => rw [hc] at p1; exact p1.elim
  | some ds =>
    rw [hc] at p1
    exact ⟨F1, ds, e1.trk, rvs.bors e1 hc, opPost s1 e1 p1⟩
theorem s_bi {x : Str} {id : String} {g : List D → Op} {p : Pos} (hc : CallR X (.builtin id) (rN κ g)) (hg : Gl X x) (hm : X.mg x = none) (hv : bootBuiltins x = some (.builtin id)) (ha : PA X (e :: es) (tA κ W ms)) (hn : x ≠ "__name__") (hdb : (x == ("__debug__" : Str)) = false)
    (he : starEach (e :: es) X.env = (false, eval e X.env) :: starEach es X.env) (hpl : (backTo pos (starEach es X.env)).any (·.1) = false) : PE X (.Call (.Name x p) (e :: es) [] pos) (tE κ W (mBi g ms)) :=
  PE.imp (pe_callB hc hg hm hv ha hn hdb he hpl) fun σ H Q h => bi_post h
theorem s_ty {x : Str} {T : String} {g : List D → Op} {p : Pos} (hc : CallR X (.type T) (rN κ g)) (hg : Gl X x) (hm : X.mg x = none) (hv : bootBuiltins x = some (.type T)) (ha : PA X (e :: es) (tA κ W ms)) (hn : x ≠ "__name__") (hdb : (x == ("__debug__" : Str)) = false)
    (he : starEach (e :: es) X.env = (false, eval e X.env) :: starEach es X.env) (hpl : (backTo pos (starEach es X.env)).any (·.1) = false) : PE X (.Call (.Name x p) (e :: es) [] pos) (tE κ W (mBi g ms)) :=
  PE.imp (pe_callTy hc hg hm hv ha hn hdb he hpl) fun σ H Q h => bi_post h
/-! isinstance(x, T), T a built-in type -/
theorem s_isi {x t : Str} {T : String} {p p2 : Pos} (hg : Gl X x) (hm : X.mg x = none) (hv : bootBuiltins x = some (.builtin "isinstance")) (ht : Gl X t) (htm : X.mg t = none) (htv : bootBuiltins t = some (.type T)) (ha : PE X e (tE κ W ma))
    (hn : x ≠ "__name__") (hdb : (x == ("__debug__" : Str)) = false) (hn2 : t ≠ "__name__") (hdb2 : (t == ("__debug__" : Str)) = false)
    (he1 : starEach [e, .Name t p2] X.env = (false, eval e X.env) :: starEach [.Name t p2] X.env) (he2 : starEach [.Name t p2] X.env = (false, eval (.Name t p2) X.env) :: starEach [] X.env)
    (hpl : (backTo pos (starEach [.Name t p2] X.env)).any (·.1) = false) : PE X (.Call (.Name x p) [e, .Name t p2] [] pos) (tE κ W (mUn (gIsi T) ma)) := by
  refine PE.imp (pe_callB call_isi hg hm hv (pa_cons ha (pa_cons (pe_bltn (v := .ty T) ht htm htv rfl hn2 hdb2) pa_nil he2) he1) hn hdb he1 hpl) ?_
  rintro σ H Q ⟨F, ρ, en, p⟩
  refine ⟨F, ρ, en, p.bind fun r F1 H1 ρ1 s1 e1 p1 v rv => ?_⟩
  obtain ⟨d, hd, p3⟩ := with1_post (α := Unit) p1
  exact c_isi T ⟨v, rfl, F1, d, e1.trk, rv.bor e1 hd, opPost s1 e1 p3⟩
/-! slices -/
theorem s_nopart : PO X none (tO κ W mNoPart) := by
  refine ⟨fun pins s σ H Q I h => po_none.run pins s σ H Q I ?_⟩
  obtain ⟨F, ρ, en, p⟩ := h
  exact p F H .refl en
theorem s_part (ha : PE X a (tE κ W ma)) : PO X (some a) (tO κ W (mPart ma)) := by
  refine ⟨fun pins s σ H Q I h => (po_some ha).run pins s σ H Q I ?_⟩
  obtain ⟨F, ρ, en, p⟩ := h
  refine ⟨F, ρ, en, p.bind fun r F1 H1 ρ1 s1 e1 p1 v rv => ?_⟩
  cases e : r.cont ρ1 with
  | none => rw [e] at p1; exact p1.elim
  | some d =>
    rw [e] at p1
    have bo := rv.bor e1 e
    cases d with
    | int k => exact ⟨k, bo.int, p1 F1 H1 .refl e1⟩
    | _ => exact p1.elim
theorem s_sl {lo hi : Option Expr} {g : D → Option Int → Option Int → Op} {ml mh : MO} {p2 : Pos} (hr : SlR X (rSl κ g)) (ha : PE X a (tE κ W ma)) (hl : PO X lo (tO κ W ml)) (hh : PO X hi (tO κ W mh)) : PE X (.Subscript a (.Slice lo hi none p2) pos) (tE κ W (mSl g ma ml mh)) := by
  refine PE.imp (pe_slice hr ha hl hh) ?_
  rintro σ H Q ⟨F, ρ, en, p⟩
  refine ⟨F, ρ, en, p.bind fun r F1 H1 ρ1 s1 e1 p1 v rv => ⟨F1, ρ1, e1, p1.bind fun l F2 H2 ρ2 s2 e2 p2 => ⟨F2, ρ2, e2, p2.bind fun h F3 H3 ρ3 s3 e3 p3 => ?_⟩⟩⟩
  obtain ⟨d, hd, p4⟩ := with1_post (α := Unit) p3
  exact ⟨F3, d, e3.trk, (s3.rrep e2 (s2.rrep e1 rv)).bor e3 hd, opPost (s1.trans (s2.trans s3)) e3 p4⟩
end
end JM

namespace JM
open PySem PySem.Spec L2

/-! ### freezing values -/
/-- b: all freeze; otherwise only what stands in slots -/
def frz1 (b : Bool) (ρ : Slots) : RV → Option (RV × Slots)
  | .pu d => some (.pu d, ρ)
  | .fr d => some (if b then .pu d else .fr d, ρ)
  | .nm i => match (RV.nm i).frz ρ with
    | some (d, ρ2) => some (.pu d, ρ2)
    | none => none
def frzs (b : Bool) : Slots → List RV → Option (List RV × Slots)
  | ρ, [] => some ([], ρ)
  | ρ, r :: rs => match frz1 b ρ r with
    | some (r', ρ1) => match frzs b ρ1 rs with
      | some (rs', ρ2) => some (r' :: rs', ρ2)
      | none => none
    | none => none
/-- all frozen: the data -/
def frzD (ρ : Slots) : List RV → Option (List D × Slots)
  | [] => some ([], ρ)
  | r :: rs => match r.frz ρ with
    | some (d, ρ1) => match frzD ρ1 rs with
      | some (ds, ρ2) => some (d :: ds, ρ2)
      | none => none
    | none => none
section
variable {κ : Nat → Addr} {F F1 F2 : Addr → Prop} {σ : L2.St} {H H1 H2 H₀ : Hp} {ρ ρ1 ρ2 : Slots}
theorem Rep.refF {d : D} {b : Addr} (h : Rep κ F H d (.ref b)) : F b := by
  cases d with
  | non => cases h
  | bl _ => cases h
  | int _ => cases h
  | str _ => cases h
  | tup _ => obtain ⟨b, vs, eb, fb, _⟩ := h; cases eb; exact fb
  | lst _ => obtain ⟨b, vs, eb, fb, _⟩ := h; cases eb; exact fb
  | dct _ _ => obtain ⟨b, vs, eb, fb, _⟩ := h; cases eb; exact fb
  | ins _ _ _ => obtain ⟨b, dx, fs, vs, eb, fb, _⟩ := h; cases eb; exact fb
/-- another object is not the one that freezes -/
theorem RRep.other {r : RV} {v : V} {d : D} {b : Addr} (e : EnvOk κ F σ H ρ) (h : RRep κ F σ H₀ H ρ v r) (hf : r.frz ρ = some (d, ρ2)) (nf : ¬ F b) (no : ¬ OwnS σ ρ b) (ne : ¬ frA r v b) : v ≠ .ref b := by
  rintro rfl
  cases r with
  | pu d' => exact nf (Rep.refF h)
  | fr d' => exact ne ⟨d', rfl, rfl⟩
  | nm i =>
    have h : σ[i]? = some (some (V.ref b)) := h
    cases hs : ρ[i]? with
    | none => simp [RV.frz, hs] at hf
    | some sv =>
      obtain ⟨w, h1, h2⟩ := e.sl i sv hs
      rw [h] at h1; cases h1
      cases sv with
      | un => simp [RV.frz, hs] at hf
      | pu d' => obtain ⟨w, e1, q⟩ := h2; cases e1; exact nf (Rep.refF q)
      | pf d' => obtain ⟨w, e1, q⟩ := h2; cases e1; exact nf (Rep.refF q)
      | ob p l d' => exact no ⟨i, p, l, d', hs, h⟩
/-- what freezing leaves of the other values -/
structure Kept (F : Addr → Prop) (σ : L2.St) (ρ : Slots) (F2 : Addr → Prop) (ρ2 : Slots) (B : Addr → Prop) : Prop where
  f : ∀ a, F a → F2 a
  n : ∀ a, F2 a → F a ∨ B a ∨ OwnS σ ρ a
  o : ∀ a, OwnS σ ρ2 a → OwnS σ ρ a
theorem Kept.rrep {B : Addr → Prop} (k : Kept F σ ρ F2 ρ2 B) {r : RV} {v : V} (h : RRep κ F σ H₀ H ρ v r) (nb : ∀ a, frA r v a → ¬ B a) : RRep κ F2 σ H₀ H ρ2 v r := by
  cases r with
  | pu d => exact Rep.mono k.f (fun _ _ _ q => q) _ _ h
  | fr d =>
    obtain ⟨a, e1, h1, h2, h3, h4⟩ := h
    refine ⟨a, e1, fun q => ?_, fun q => h2 (k.o a q), h3, Own.mono k.f (fun _ _ _ q => q) (fun _ q => q) h4⟩
    rcases k.n a q with q | q | q
    · exact h1 q
    · exact nb a ⟨d, rfl, e1⟩ q
    · exact h2 q
  | nm i => exact h
theorem frz1_ok {b : Bool} {v : V} {r r' : RV} (s : Stp F σ H ρ F1 σ H1 ρ1) (e : EnvOk κ F1 σ H1 ρ1) (h : RRep κ F1 σ H H1 ρ1 v r) (hf : frz1 b ρ1 r = some (r', ρ2)) :
    ∃ F2, Stp F σ H ρ F2 σ H1 ρ2 ∧ EnvOk κ F2 σ H1 ρ2 ∧ RRep κ F2 σ H H1 ρ2 v r' ∧ Kept F1 σ ρ1 F2 ρ2 (frA r v) ∧ (∀ a, frA r' v a → frA r v a) := by
  have key : ∀ d ρ3, r.frz ρ1 = some (d, ρ3) → ∃ F2, Stp F σ H ρ F2 σ H1 ρ3 ∧ EnvOk κ F2 σ H1 ρ3 ∧ Rep κ F2 H1 d v ∧ Kept F1 σ ρ1 F2 ρ3 (frA r v) := by
    intro d ρ3 hf
    obtain ⟨F2, s2, e2, rp, k1, k2, k3⟩ := freeze s e h hf
    refine ⟨F2, s2, e2, rp, ⟨k1, fun a q => ?_, fun a q => (k3 a q).1⟩⟩
    rcases k2 a q with q | q
    · exact .inl q
    · refine Classical.byContradiction fun z => ?_
      exact RRep.other e h hf (fun y => z (.inl y)) (fun y => z (.inr (.inr y))) (fun y => z (.inr (.inl y))) q
  have same : r' = r → ρ2 = ρ1 → ∃ F2, Stp F σ H ρ F2 σ H1 ρ2 ∧ EnvOk κ F2 σ H1 ρ2 ∧ RRep κ F2 σ H H1 ρ2 v r' ∧ Kept F1 σ ρ1 F2 ρ2 (frA r v) ∧ (∀ a, frA r' v a → frA r v a) := by
    rintro rfl rfl
    exact ⟨F1, s, e, h, ⟨fun _ q => q, fun _ q => .inl q, fun _ q => q⟩, fun _ q => q⟩
  cases r with
  | pu d => cases hf; exact same rfl rfl
  | fr d =>
    cases b with
    | false => cases hf; exact same rfl rfl
    | true =>
      cases hf
      obtain ⟨F2, s2, e2, rp, k⟩ := key d ρ1 rfl
      exact ⟨F2, s2, e2, rp, k, fun a ⟨_, z, _⟩ => by cases z⟩
  | nm i =>
    have hf : (match (RV.nm i).frz ρ1 with
      | some (d, ρ2) => some (RV.pu d, ρ2)
      | none => none) = some (r', ρ2) := hf
    cases hz : (RV.nm i).frz ρ1 with
    | none => rw [hz] at hf; cases hf
    | some p =>
      obtain ⟨d, ρ3⟩ := p
      rw [hz] at hf
      cases hf
      obtain ⟨F2, s2, e2, rp, k⟩ := key d ρ2 hz
      exact ⟨F2, s2, e2, rp, k, fun a ⟨_, z, _⟩ => by cases z⟩
theorem Kept.rreps {B : Addr → Prop} (k : Kept F σ ρ F2 ρ2 B) : ∀ {rs : List RV} {vs : List V}, RReps κ F σ H₀ H ρ rs vs → (∀ a, B a → ¬ FrAs rs vs a) → RReps κ F2 σ H₀ H ρ2 rs vs
  | [], _, h, _ => h
  | r :: rs, _, ⟨v, ws, e1, h1, h2, h3⟩, nb => by
    subst e1
    refine ⟨v, ws, rfl, k.rrep h1 fun a ⟨d, q1, q2⟩ z => nb a z ⟨0, d, by rw [q1]; rfl, by rw [q2]; rfl⟩, k.rreps h2 fun a z ⟨i, d, q1, q2⟩ => nb a z ⟨i + 1, d, by simpa using q1, by simpa using q2⟩, h3⟩
theorem frzs_ok {b : Bool} : ∀ {rs rs' : List RV} {vs : List V} {F1 : Addr → Prop} {ρ1 ρ2 : Slots}, Stp F σ H ρ F1 σ H1 ρ1 → EnvOk κ F1 σ H1 ρ1 → RReps κ F1 σ H H1 ρ1 rs vs → frzs b ρ1 rs = some (rs', ρ2) →
    ∃ F2, Stp F σ H ρ F2 σ H1 ρ2 ∧ EnvOk κ F2 σ H1 ρ2 ∧ RReps κ F2 σ H H1 ρ2 rs' vs ∧ Kept F1 σ ρ1 F2 ρ2 (FrAs rs vs) ∧ (∀ a, FrAs rs' vs a → FrAs rs vs a)
  | [], rs', vs, F1, ρ1, ρ2, s, e, h, hf => by
    cases hf
    exact ⟨F1, s, e, h, ⟨fun _ q => q, fun _ q => .inl q, fun _ q => q⟩, fun _ q => q⟩
  | r :: rs, rs', vs, F1, ρ1, ρ2, s, e, ⟨v, ws, e1, h1, h2, h3⟩, hf => by
    subst e1
    unfold frzs at hf
    cases hz : frz1 b ρ1 r with
    | none => rw [hz] at hf; cases hf
    | some p =>
      obtain ⟨r', ρ3⟩ := p
      rw [hz] at hf
      cases hz2 : frzs b ρ3 rs with
      | none => simp only [hz2] at hf; cases hf
      | some p =>
        obtain ⟨rs2, ρ4⟩ := p
        simp only [hz2] at hf
        cases hf
        obtain ⟨F3, s3, e3, q3, k3, n3⟩ := frz1_ok s e h1 hz
        obtain ⟨F4, s4, e4, q4, k4, n4⟩ := frzs_ok s3 e3 (k3.rreps h2 h3) hz2
        refine ⟨F4, s4, e4, ⟨v, ws, rfl, k4.rrep q3 fun a y z => h3 a (n3 a y) z, q4, fun a y z => h3 a (n3 a y) (n4 a z)⟩, ⟨fun a q => k4.f a (k3.f a q), fun a q => ?_, fun a q => k3.o a (k4.o a q)⟩, fun a ⟨i, d, q1, q2⟩ => ?_⟩
        · rcases k4.n a q with q | ⟨i, d, q1, q2⟩ | q
          · rcases k3.n a q with q | ⟨d, q1, q2⟩ | q
            · exact .inl q
            · exact .inr (.inl ⟨0, d, by rw [q1]; rfl, by rw [q2]; rfl⟩)
            · exact .inr (.inr q)
          · exact .inr (.inl ⟨i + 1, d, by simpa using q1, by simpa using q2⟩)
          · exact .inr (.inr (k3.o a q))
        · cases i with
          | zero =>
            obtain ⟨d', z1, z2⟩ := n3 a ⟨d, by simpa using q1, by simpa using q2⟩
            exact ⟨0, d', by rw [z1]; rfl, by rw [z2]; rfl⟩
          | succ i =>
            obtain ⟨j, d', z1, z2⟩ := n4 a ⟨i, d, by simpa using q1, by simpa using q2⟩
            exact ⟨j + 1, d', by simpa using z1, by simpa using z2⟩
/-- all pure -/
def puD : List RV → Option (List D)
  | [] => some []
  | .pu d :: rs => match puD rs with
    | some ds => some (d :: ds)
    | none => none
  | _ :: _ => none
theorem RReps.reps : ∀ {rs : List RV} {vs : List V} {ds : List D}, RReps κ F σ H₀ H ρ rs vs → puD rs = some ds → Reps κ F H ds vs
  | [], _, _, h, e => by cases e; exact h
  | .pu d :: rs, _, _, ⟨v, ws, e1, h1, h2, h3⟩, e => by
    subst e1
    unfold puD at e
    cases hz : puD rs with
    | none => rw [hz] at e; cases e
    | some ds => rw [hz] at e; cases e; exact .cons h1 (RReps.reps h2 hz)
  | .fr d :: rs, _, _, _, e => by cases e
  | .nm d :: rs, _, _, _, e => by cases e
end
/-- the values as data, all frozen -/
def frzA (ρ : Slots) (rs : List RV) : Option (List D × Slots) := match frzs true ρ rs with
  | some (rs', ρ2) => match puD rs' with
    | some ds => some (ds, ρ2)
    | none => none
  | none => none
section
variable {κ : Nat → Addr} {W : WX} {F F1 F2 : Addr → Prop} {σ : L2.St} {H H1 H2 H₀ : Hp} {ρ ρ1 ρ2 : Slots} {X : Cx} {a b c e : Expr} {es : List Expr} {ma mb mc : ME} {ta tb tc : MT} {ms : MA} {pos : Pos}
theorem frzA_ok {rs : List RV} {vs : List V} {ds : List D} (s : Stp F σ H ρ F1 σ H1 ρ1) (e : EnvOk κ F1 σ H1 ρ1) (h : RReps κ F1 σ H H1 ρ1 rs vs) (hf : frzA ρ1 rs = some (ds, ρ2)) :
    ∃ F2, Stp F σ H ρ F2 σ H1 ρ2 ∧ EnvOk κ F2 σ H1 ρ2 ∧ Reps κ F2 H1 ds vs := by
  unfold frzA at hf
  cases hz : frzs true ρ1 rs with
  | none => rw [hz] at hf; cases hf
  | some p =>
    obtain ⟨rs', ρ3⟩ := p
    rw [hz] at hf
    cases hz2 : puD rs' with
    | none => simp only [hz2] at hf; cases hf
    | some ds' =>
      simp only [hz2] at hf
      cases hf
      obtain ⟨F3, s3, e3, q3, _, _⟩ := frzs_ok s e h hz
      exact ⟨F3, s3, e3, q3.reps hz2⟩
/-- how many values come -/
def LenA (n : Nat) (ms : MA) : Prop := ∀ ρ rs ρ', ms ρ = .ok rs ρ' → rs.length = n
theorem lenA_nil : LenA 0 mNil := fun ρ rs ρ' h => by cases h; rfl
theorem Res.bind_ok {α β : Type} {res : Res α} {f : α → Slots → Res β} {b : β} {ρ' : Slots} (h : res.bind f = .ok b ρ') : ∃ a ρ1, res = .ok a ρ1 ∧ f a ρ1 = .ok b ρ' := by
  cases res with
  | ok a ρ1 => exact ⟨a, ρ1, rfl, h⟩
  | rai x ρ1 => cases h
  | bad => cases h
theorem lenA_cons {n : Nat} (h : LenA n ms) : LenA (n + 1) (mCons ma ms) := fun ρ rs ρ' q => by
  obtain ⟨r, ρ1, h1, h2⟩ := Res.bind_ok q
  obtain ⟨rs', ρ2, h3, h4⟩ := Res.bind_ok h2
  cases h4
  rw [List.length_cons, h _ _ _ h3]
/-! ### displays -/
def mDisp (tup : Bool) (as : MA) : ME := fun ρ => (as ρ).bind fun rs ρ1 => match frzA ρ1 rs with
  | some (ds, ρ2) => if tup then .ok (.pu (.tup ds)) ρ2 else .ok (.fr (.lst ds)) ρ2
  | none => .bad
theorem Post.bindO {α β : Type} {res : Res α} {f : α → Slots → Res β} {k : β → (Addr → Prop) → Hp → Slots → Prop} {k' : α → (Addr → Prop) → Hp → Slots → Prop} (h : Post κ W F σ H ρ (res.bind f) k)
    (q : ∀ a F' H' ρ', res = .ok a ρ' → Stp F σ H ρ F' σ H' ρ' → EnvOk κ F' σ H' ρ' → Post κ W F σ H ρ (f a ρ') k → k' a F' H' ρ') : Post κ W F σ H ρ res k' := by
  cases res with
  | ok a ρ' => exact fun F' H' t e => q a F' H' ρ' rfl t e h
  | rai x ρ' => exact h
  | bad => exact h.elim
theorem disp_post {t : Bool} {n : Nat} {Q : VK} (hl : LenA n ms) (hn : n ≤ sizeLine) (h : tE κ W (mDisp t ms) σ H Q) :
    tA κ W ms σ H fun xs H1 => xs.length ≤ sizeLine ∧ ∀ p, H1 p = none → Q (.ref p) (upd H1 p (if t then .tup xs else .lst xs)) := by
  obtain ⟨F, ρ, en, p⟩ := h
  refine ⟨F, ρ, en, p.bindO fun rs F1 H1 ρ1 ee s1 e1 p1 vs rv => ?_⟩
  cases hz : frzA ρ1 rs with
  | none => rw [hz] at p1; exact p1.elim
  | some q =>
    obtain ⟨ds, ρ2⟩ := q
    rw [hz] at p1
    obtain ⟨F2, s2, e2, rp⟩ := frzA_ok s1 e1 rv hz
    refine ⟨by rw [rv.length, hl _ _ _ ee]; exact hn, fun pp hp => ?_⟩
    cases t with
    | true =>
      refine p1 _ _ (s2.trans (Stp.laidF hp)) (e2.laidF hp) (.ref pp) ⟨pp, vs, rfl, .inr rfl, .of upd_same, ?_⟩
      exact (Grow.laidF hp).reps rp
    | false =>
      refine p1 _ _ (s2.trans (Stp.laid hp)) (e2.laid hp) (.ref pp) ⟨pp, rfl, fun q => e2.trk pp q hp, fun q => (e2.ownF q).2 hp, s2.early pp hp, vs, upd_same, ?_⟩
      exact (Grow.laid hp).reps rp
theorem s_tup {n : Nat} {x1} (ha : PA X es (tA κ W ms)) (hl : LenA n ms) (hn : n ≤ sizeLine) : PE X (.Tuple es x1 pos) (tE κ W (mDisp true ms)) :=
  PE.imp (pe_tup ha) fun σ H Q h => disp_post hl hn h
theorem s_lst {n : Nat} (ha : PA X es (tA κ W ms)) (hl : LenA n ms) (hn : n ≤ sizeLine) : PE X (.List es pos) (tE κ W (mDisp false ms)) :=
  PE.imp (pe_lst ha) fun σ H Q h => disp_post hl hn h
end

/-! ### the judgement of statements -/
abbrev MS := Slots → SRes
section
variable (κ : Nat → Addr) (W : WX)
def PostS (F : Addr → Prop) (σ : L2.St) (H : Hp) (ρ : Slots) (res : SRes) (D : Ends) : Prop := match res with
  | .nx ρ' => ∀ F' σ' H', Stp F σ H ρ F' σ' H' ρ' → EnvOk κ F' σ' H' ρ' → D.nx σ' H'
  | .br ρ' => ∀ F' σ' H', Stp F σ H ρ F' σ' H' ρ' → EnvOk κ F' σ' H' ρ' → D.bk σ' H'
  | .ct ρ' => ∀ F' σ' H', Stp F σ H ρ F' σ' H' ρ' → EnvOk κ F' σ' H' ρ' → D.ct σ' H'
  | .rt r ρ' => ∀ v F' σ' H', Stp F σ H ρ F' σ' H' ρ' → EnvOk κ F' σ' H' ρ' → RRep κ F' σ' H H' ρ' v r → D.rt v H'
  | .rai x ρ' => ∀ c o F' σ' H', Stp F σ H ρ F' σ' H' ρ' → EnvOk κ F' σ' H' ρ' → XRep κ F' H' x c o → W c o σ' H'
  | .bad => False
def tS (m : MS) : TS := fun D σ H => ∃ F ρ, EnvOk κ F σ H ρ ∧ PostS κ W F σ H ρ (m ρ) D
end
def liftE {α : Type} (res : Res α) (f : α → Slots → SRes) : SRes := match res with
  | .ok a ρ => f a ρ
  | .rai x ρ => .rai x ρ
  | .bad => .bad
def mSkip : MS := fun ρ => .nx ρ
def mSeq (a b : MS) : MS := fun ρ => match a ρ with
  | .nx ρ1 => b ρ1
  | r => r
def mBreak : MS := fun ρ => .br ρ
def mCont : MS := fun ρ => .ct ρ
def mDrop (a : ME) : MS := fun ρ => liftE (a ρ) fun _ ρ1 => .nx ρ1
def mRet (a : ME) : MS := fun ρ => liftE (a ρ) fun r ρ1 => .rt r ρ1
def mRetN : MS := fun ρ => .rt (.pu .non) ρ
def mIfS (c : MT) (a b : MS) : MS := fun ρ => liftE (c ρ) fun k ρ1 => if k = true then a ρ1 else b ρ1
def mWhile (c : MT) (b : MS) : Nat → MS
  | 0, _ => .bad
  | n + 1, ρ => liftE (c ρ) fun k ρ1 => if k = true then (match b ρ1 with
      | .nx ρ2 => mWhile c b n ρ2
      | .ct ρ2 => mWhile c b n ρ2
      | .br ρ2 => .nx ρ2
      | r => r) else .nx ρ1
def RV.sv : RV → SV
  | .pu d => .pu d
  | .fr d => .ob false false d
  | .nm _ => .un
def RV.isNm : RV → Bool
  | .nm _ => true
  | _ => false
/-- a resolved value goes to a slot that holds no parameter's object -/
def put1 (ρ : Slots) (i : Nat) (r : RV) : Option Slots := match ρ[i]? with
  | some sv => if sv.isPar || r.isNm then none else some (ρ.set i r.sv)
  | none => none
def mAsg (i : Nat) (a : ME) : MS := fun ρ => liftE (a ρ) fun r ρ1 => match frz1 false ρ1 r with
  | some (r', ρ2) => match put1 ρ2 i r' with
    | some ρ3 => .nx ρ3
    | none => .bad
  | none => .bad
def mPar (i j : Nat) (as : MA) : MS := fun ρ => liftE (as ρ) fun rs ρ1 => match frzs false ρ1 rs with
  | some ([r, r'], ρ2) => match put1 ρ2 i r with
    | some ρ3 => match put1 ρ3 j r' with
      | some ρ4 => .nx ρ4
      | none => .bad
    | none => .bad
  | _ => .bad
section
variable {κ : Nat → Addr} {W : WX} {F F1 F2 : Addr → Prop} {σ σ1 σ₀ : L2.St} {H H1 H2 H₀ : Hp} {ρ ρ1 ρ2 : Slots} {X : Cx} {e : Expr} {es : List Expr} {ma mb mc : ME} {tc : MT} {ms : MA} {mS mS' : MS} {pos : Pos} {D : Ends} {st : Stmt} {rest sa sb : List Stmt}
theorem PostS.after {res : SRes} (s : Stp F σ H ρ F1 σ1 H1 ρ1) (h : PostS κ W F σ H ρ res D) : PostS κ W F1 σ1 H1 ρ1 res D := by
  cases res with
  | nx ρ' => exact fun F' σ' H' t e => h F' σ' H' (s.trans t) e
  | br ρ' => exact fun F' σ' H' t e => h F' σ' H' (s.trans t) e
  | ct ρ' => exact fun F' σ' H' t e => h F' σ' H' (s.trans t) e
  | rt r ρ' => exact fun v F' σ' H' t e q => h v F' σ' H' (s.trans t) e (q.early fun a => s.none_of)
  | rai x ρ' => exact fun c o F' σ' H' t e q => h c o F' σ' H' (s.trans t) e q
  | bad => exact h.elim
/-- only the ends that the result has matter -/
theorem PostS.lift {α : Type} {res : Res α} {f : α → Slots → SRes} {k : α → (Addr → Prop) → Hp → Slots → Prop} (h : PostS κ W F σ H ρ (liftE res f) D)
    (q : ∀ a F' H' ρ', res = .ok a ρ' → Stp F σ H ρ F' σ H' ρ' → EnvOk κ F' σ H' ρ' → PostS κ W F σ H ρ (f a ρ') D → k a F' H' ρ') : Post κ W F σ H ρ res k := by
  cases res with
  | ok a ρ' => exact fun F' H' t e => q a F' H' ρ' rfl t e h
  | rai x ρ' => exact fun c o F' H' t e q => h c o F' σ H' t e q
  | bad => exact h.elim
theorem ss_nil : PSs X [] (tS κ W mSkip) := by
  refine PSs.imp pss_nil ?_
  rintro D σ H ⟨F, ρ, en, p⟩
  exact p F σ H .refl en
theorem seq_post (h : tS κ W (mSeq mS mS') D σ H) : tSeq (tS κ W mS) (tS κ W mS') D σ H := by
  obtain ⟨F, ρ, en, p⟩ := h
  refine ⟨F, ρ, en, ?_⟩
  unfold mSeq at p
  cases e : mS ρ with
  | nx ρ1 => rw [e] at p; exact fun F' σ' H' s e' => ⟨F', ρ1, e', p.after s⟩
  | br ρ1 => rw [e] at p; exact p
  | ct ρ1 => rw [e] at p; exact p
  | rt r ρ1 => rw [e] at p; exact p
  | rai x ρ1 => rw [e] at p; exact p
  | bad => rw [e] at p; exact p
theorem ss_cons (h1 : PS X st (tS κ W mS)) (h2 : PSs X rest (tS κ W mS')) : PSs X (st :: rest) (tS κ W (mSeq mS mS')) := PSs.imp (pss_cons h1 h2) fun D σ H h => seq_post h
theorem ss_one (h1 : PS X st (tS κ W mS)) : PSs X [st] (tS κ W mS) := pss_one h1
theorem ss_pass : PS X (.Pass pos) (tS κ W mSkip) := by
  refine PS.imp ps_pass ?_
  rintro D σ H ⟨F, ρ, en, p⟩
  exact p F σ H .refl en
theorem ss_doc {x j pos pos'} : PS X (.Expr (.Constant (.str x) j pos) pos') (tS κ W mSkip) := by
  refine PS.imp ps_doc ?_
  rintro D σ H ⟨F, ρ, en, p⟩
  exact p F σ H .refl en
theorem ss_break : PS X (.Break pos) (tS κ W mBreak) := by
  refine PS.imp ps_break ?_
  rintro D σ H ⟨F, ρ, en, p⟩
  exact p F σ H .refl en
theorem ss_cont : PS X (.Continue pos) (tS κ W mCont) := by
  refine PS.imp ps_continue ?_
  rintro D σ H ⟨F, ρ, en, p⟩
  exact p F σ H .refl en
theorem ss_expr (he : PE X e (tE κ W ma)) (hs : swapsWith e none pos.line X.env = pure false) : PS X (.Expr e pos) (tS κ W (mDrop ma)) := by
  refine PS.imp (ps_expr he hs) ?_
  rintro D σ H ⟨F, ρ, en, p⟩
  exact ⟨F, ρ, en, p.lift fun r F1 H1 ρ1 _ s1 e1 p1 v rv => p1 F1 σ H1 s1 e1⟩
theorem ss_ret (he : PE X e (tE κ W ma)) : PS X (.Return (some e) pos) (tS κ W (mRet ma)) := by
  refine PS.imp (ps_ret he) ?_
  rintro D σ H ⟨F, ρ, en, p⟩
  exact ⟨F, ρ, en, p.lift fun r F1 H1 ρ1 _ s1 e1 p1 v rv => p1 v F1 σ H1 s1 e1 rv⟩
theorem ss_retN : PS X (.Return none pos) (tS κ W mRetN) := by
  refine PS.imp ps_retN ?_
  rintro D σ H ⟨F, ρ, en, p⟩
  exact p .non F σ H .refl en rfl
theorem ss_if {c : Expr} (hc : PT X c (tT κ W tc)) (ha : PSs X sa (tS κ W mS)) (hb : PSs X sb (tS κ W mS')) : PS X (.If c sa sb pos) (tS κ W (mIfS tc mS mS')) := by
  refine PS.imp (ps_if hc ha hb) ?_
  rintro D σ H ⟨F, ρ, en, p⟩
  refine ⟨F, ρ, en, p.lift fun k F1 H1 ρ1 _ s1 e1 p1 => ?_⟩
  cases k with
  | true => rw [if_pos rfl] at p1 ⊢; exact ⟨F1, ρ1, e1, p1.after s1⟩
  | false => rw [if_neg (by decide)] at p1 ⊢; exact ⟨F1, ρ1, e1, p1.after s1⟩
theorem loop_post {res : SRes} {f : Slots → SRes} (h : PostS κ W F σ H ρ (match res with
      | .nx ρ2 => f ρ2
      | .ct ρ2 => f ρ2
      | .br ρ2 => .nx ρ2
      | r => r) D) : PostS κ W F σ H ρ res { D with nx := fun σ' H' => ∃ F' ρ', EnvOk κ F' σ' H' ρ' ∧ Stp F σ H ρ F' σ' H' ρ' ∧ PostS κ W F' σ' H' ρ' (f ρ') D, ct := fun σ' H' => ∃ F' ρ', EnvOk κ F' σ' H' ρ' ∧ Stp F σ H ρ F' σ' H' ρ' ∧ PostS κ W F' σ' H' ρ' (f ρ') D, bk := D.nx } := by
  cases res with
  | nx ρ' => exact fun F' σ' H' t e => ⟨F', ρ', e, t, h.after t⟩
  | br ρ' => exact h
  | ct ρ' => exact fun F' σ' H' t e => ⟨F', ρ', e, t, h.after t⟩
  | rt r ρ' => exact h
  | rai x ρ' => exact h
  | bad => exact h.elim
theorem ss_while {c : Expr} {n : Nat} (hp : PassesOwn (model X.prog X.w) X.A X.env X.xe) (hc : PT X c (tT κ W tc)) (hb : PSs X sb (tS κ W mS)) : PS X (.While c sb [] pos) (tS κ W (mWhile tc mS n)) := by
  refine PS.imp (ps_while hp hc hb) ?_
  rintro D σ H ⟨F, ρ, en, p⟩
  refine ⟨fun m σ H => ∃ F ρ, EnvOk κ F σ H ρ ∧ PostS κ W F σ H ρ (mWhile tc mS m ρ) D, ⟨n, F, ρ, en, p⟩, ?_⟩
  rintro m σ H ⟨F, ρ, en, p⟩
  cases m with
  | zero => exact p.elim
  | succ m =>
    refine ⟨F, ρ, en, PostS.lift p fun k F1 H1 ρ1 _ s1 e1 p1 => ?_⟩
    cases k with
    | true =>
      rw [if_pos rfl] at p1 ⊢
      refine ⟨fun σ' H' => ∃ F' ρ', EnvOk κ F' σ' H' ρ' ∧ Stp F1 σ H1 ρ1 F' σ' H' ρ' ∧ PostS κ W F' σ' H' ρ' (mWhile tc mS m ρ') D, fun σ' H' ⟨F', ρ', q1, _, q2⟩ => ⟨m, Nat.lt_succ_self m, F', ρ', q1, q2⟩, F1, ρ1, e1, loop_post (p1.after s1)⟩
    | false => rw [if_neg (by decide)] at p1 ⊢; exact p1 F1 σ H1 s1 e1

/-! storing in a slot -/
theorem putAt {v : V} {i : Nat} {old sv : SV} (s : Stp F σ₀ H ρ F1 σ H1 ρ1) (e : EnvOk κ F1 σ H1 ρ1) (hi : ρ1[i]? = some old) (np : old.isPar = false) (sl : SlOk κ F1 H1 (some v) sv)
    (hob : ∀ p l d a, sv = .ob p l d → v = .ref a → ¬ OwnS σ ρ1 a ∧ H a = none) : Stp F σ₀ H ρ F1 (σ.set i (some v)) H1 (ρ1.set i sv) ∧ EnvOk κ F1 (σ.set i (some v)) H1 (ρ1.set i sv) := by
  have il : i < ρ1.length := (List.getElem?_eq_some_iff.mp hi).1
  have il' : i < σ.length := by rw [← e.len]; exact il
  have back : ∀ (j : Nat) (p l : Bool) (d : D) (x : Addr), (ρ1.set i sv)[j]? = some (.ob p l d) → (σ.set i (some v))[j]? = some (some (.ref x)) → (j = i ∧ sv = .ob p l d ∧ v = .ref x) ∨ (j ≠ i ∧ ρ1[j]? = some (.ob p l d) ∧ σ[j]? = some (some (.ref x))) := by
    intro j p l d x q1 q2
    by_cases hj : j = i
    · subst hj
      rw [List.getElem?_set_self il] at q1
      rw [List.getElem?_set_self il'] at q2
      exact .inl ⟨rfl, Option.some.inj q1, Option.some.inj (Option.some.inj q2)⟩
    · rw [List.getElem?_set_ne (Ne.symm hj)] at q1 q2
      exact .inr ⟨hj, q1, q2⟩
  refine ⟨⟨s.f, s.n, ?_, s.h, s.t, fun j sj q pq => ?_⟩, by rw [List.length_set, List.length_set]; exact e.len, e.trk, fun j sj q => ?_, ?_⟩
  · rintro x ⟨j, p, l, d, q1, q2⟩
    rcases back j p l d x q1 q2 with ⟨_, e1, e2⟩ | ⟨_, e1, e2⟩
    · exact .inr (hob _ _ _ _ e1 e2).2
    · exact s.o x ⟨j, p, l, d, e1, e2⟩
  · obtain ⟨⟨sj', q1, pq1⟩, q2⟩ := s.par j sj q pq
    have hj : j ≠ i := by
      rintro rfl
      rw [hi] at q1; cases q1
      rw [np] at pq1; cases pq1
    exact ⟨⟨sj', by rw [List.getElem?_set_ne (Ne.symm hj)]; exact q1, pq1⟩, by rw [List.getElem?_set_ne (Ne.symm hj)]; exact q2⟩
  · by_cases hj : j = i
    · subst hj
      rw [List.getElem?_set_self il] at q
      cases q
      exact ⟨some v, List.getElem?_set_self il', sl⟩
    · rw [List.getElem?_set_ne (Ne.symm hj)] at q
      obtain ⟨w, k1, k2⟩ := e.sl j sj q
      exact ⟨w, by rw [List.getElem?_set_ne (Ne.symm hj)]; exact k1, k2⟩
  · intro j k p l d p' l' d' x q1 q2 q3 q4
    rcases back j p l d x q1 q3 with ⟨e0, e1, e2⟩ | ⟨e0, e1, e2⟩
    · rcases back k p' l' d' x q2 q4 with ⟨f0, f1, f2⟩ | ⟨f0, f1, f2⟩
      · rw [e0, f0]
      · exact absurd ⟨k, p', l', d', f1, f2⟩ (hob _ _ _ _ e1 e2).1
    · rcases back k p' l' d' x q2 q4 with ⟨f0, f1, f2⟩ | ⟨f0, f1, f2⟩
      · exact absurd ⟨j, p, l, d, e1, e2⟩ (hob _ _ _ _ f1 f2).1
      · exact e.one j k p l d p' l' d' x e1 f1 e2 f2
theorem put1_ok {v : V} {r : RV} {i : Nat} (s : Stp F σ₀ H ρ F1 σ H1 ρ1) (e : EnvOk κ F1 σ H1 ρ1) (h : RRep κ F1 σ H H1 ρ1 v r) (hf : put1 ρ1 i r = some ρ2) :
    Stp F σ₀ H ρ F1 (σ.set i (some v)) H1 ρ2 ∧ EnvOk κ F1 (σ.set i (some v)) H1 ρ2 := by
  unfold put1 at hf
  cases hi : ρ1[i]? with
  | none => rw [hi] at hf; cases hf
  | some sv =>
    rw [hi] at hf
    cases hp : sv.isPar with
    | true => simp [hp] at hf
    | false =>
      cases hq : r.isNm with
      | true => simp [hp, hq] at hf
      | false =>
      simp only [hp, hq, Bool.or_self, Bool.false_eq_true, if_false, Option.some.injEq] at hf
      subst hf
      refine putAt s e hi hp ?_ ?_
      · cases r with
        | pu d => exact ⟨v, rfl, h⟩
        | fr d => obtain ⟨a, e1, h1, h2, h3, h4⟩ := h; exact ⟨a, by rw [e1], h1, h4⟩
        | nm j => exact True.intro
      · intro p l d a q1 q2
        cases r with
        | pu d => cases q1
        | fr d => obtain ⟨b, e1, h1, h2, h3, h4⟩ := h; rw [q2] at e1; cases e1; exact ⟨h2, h3⟩
        | nm j => cases q1
theorem asg_post {i : Nat} (h : tS κ W (mAsg i ma) D σ H) : tAsg (tE κ W ma) (gName i) D σ H := by
  obtain ⟨F, ρ, en, p⟩ := h
  refine ⟨F, ρ, en, p.lift fun r F1 H1 ρ1 _ s1 e1 p1 v rv => ?_⟩
  cases hz : frz1 false ρ1 r with
  | none => rw [hz] at p1; exact p1.elim
  | some q =>
    obtain ⟨r', ρ2⟩ := q
    rw [hz] at p1
    cases hz2 : put1 ρ2 i r' with
    | none => simp only [hz2] at p1; exact p1.elim
    | some ρ3 =>
      simp only [hz2] at p1
      obtain ⟨F2, s2, e2, rv2, _, _⟩ := frz1_ok s1 e1 rv hz
      obtain ⟨s3, e3⟩ := put1_ok s2 e2 rv2 hz2
      exact p1 F2 _ H1 s3 e3
theorem ss_set {i : Nat} {x : Str} {pos' : Pos} (hN : X.N.Nodup) (hi : X.N[i]? = some x) (hx : Loc X.env.scope x) (he : PE X e (tE κ W ma)) (hs : swapsWith e (some (.Name x pos')) pos.line X.env = pure false) (hf : X.fn x = true ∨ X.env.scope.names.lookup x = some .local) :
    PS X (.Assign [.Name x pos'] e pos) (tS κ W (mAsg i ma)) := PS.imp (ps_set hN hi hx he hs hf) fun D σ H h => asg_post h
theorem par_post {i j : Nat} (hij : i ≠ j) (h : tS κ W (mPar i j ms) D σ H) : tPar i j (tA κ W ms) D σ H := by
  obtain ⟨F, ρ, en, p⟩ := h
  refine ⟨F, ρ, en, p.lift fun rs F1 H1 ρ1 _ s1 e1 p1 vs rv => ?_⟩
  cases hz : frzs false ρ1 rs with
  | none => rw [hz] at p1; exact p1.elim
  | some q =>
    obtain ⟨rs', ρ2⟩ := q
    rw [hz] at p1
    obtain ⟨F2, s2, e2, rv2, _, _⟩ := frzs_ok s1 e1 rv hz
    match rs', p1, rv2 with
    | [], p1, _ => exact p1.elim
    | [_], p1, _ => exact p1.elim
    | _ :: _ :: _ :: _, p1, _ => exact p1.elim
    | [r, r'], p1, ⟨v, ws, q1, h1, ⟨w, ws', q2, h2, q3, _⟩, h3⟩ =>
      have q3 : ws' = [] := q3
      subst q3; subst q2; subst q1
      refine ⟨v, w, rfl, ?_⟩
      simp only at p1
      cases hz2 : put1 ρ2 i r with
      | none => simp only [hz2] at p1; exact p1.elim
      | some ρ3 =>
        simp only [hz2] at p1
        cases hz3 : put1 ρ3 j r' with
        | none => simp only [hz3] at p1; exact p1.elim
        | some ρ4 =>
          simp only [hz3] at p1
          obtain ⟨s3, e3⟩ := put1_ok s2 e2 h1 hz2
          have h2' : RRep κ F2 (σ.set i (some v)) H H1 ρ3 w r' := by
            cases r' with
            | pu d => exact h2
            | fr d =>
              obtain ⟨b, k1, k2, k3, k4, k5⟩ := h2
              refine ⟨b, k1, k2, ?_, k4, k5⟩
              rintro ⟨m, p, l, d', z1, z2⟩
              unfold put1 at hz2
              cases hi : ρ2[i]? with
              | none => rw [hi] at hz2; cases hz2
              | some sv =>
                rw [hi] at hz2
                have il : i < ρ2.length := (List.getElem?_eq_some_iff.mp hi).1
                have il' : i < σ.length := by rw [← e2.len]; exact il
                cases hp : sv.isPar with
                | true => simp [hp] at hz2
                | false =>
                  cases hq : r.isNm with
                  | true => simp [hp, hq] at hz2
                  | false =>
                  simp only [hp, hq, Bool.or_self, Bool.false_eq_true, if_false, Option.some.injEq] at hz2
                  subst hz2
                  by_cases hm : m = i
                  · subst hm
                    rw [List.getElem?_set_self il] at z1
                    rw [List.getElem?_set_self il'] at z2
                    have z2 : v = .ref b := Option.some.inj (Option.some.inj z2)
                    cases r with
                    | pu d => cases z1
                    | nm d => cases z1
                    | fr d0 =>
                      refine h3 b ⟨d0, rfl, z2⟩ ⟨0, d, rfl, ?_⟩
                      rw [k1]; rfl
                  · rw [List.getElem?_set_ne (Ne.symm hm)] at z1 z2
                    exact k3 ⟨m, p, l, d', z1, z2⟩
            | nm k =>
              unfold put1 at hz3
              cases hi : ρ3[j]? with
              | none => rw [hi] at hz3; cases hz3
              | some sv => rw [hi] at hz3; simp [RV.isNm] at hz3
          obtain ⟨s4, e4⟩ := put1_ok s3 e3 h2' hz3
          exact p1 F2 _ H1 s4 e4
end
end JM

namespace JM
open PySem PySem.Spec L2

/-! ### what is walked -/
abbrev MI := Slots → Res (List D)
abbrev MG := D → Slots → Option Slots
abbrev MGs := List D → Slots → Option Slots
section
variable (κ : Nat → Addr) (W : WX)
def Keeps (F : Addr → Prop) (H H' : Hp) : Prop := ∀ a u, F a → H a = some u → H' a = some u
/-- J yields ds, as long as what is frozen stays -/
structure ISpec (F : Addr → Prop) (H : Hp) (J : It) (ds : List D) : Prop where
  go : ∀ i H1, Keeps F H H1 → i < ds.length → J.go i H1
  stop : ∀ H1, Keeps F H H1 → J.stop ds.length H1
  yld : ∀ (i : Nat) (d : D) (F1 : Addr → Prop) (H1 : Hp) (x : V) (H2 : Hp), Keeps F H H1 → (∀ a, F a → F1 a) → FTrk F1 H1 → ds[i]? = some d → J.yld i H1 x H2 → ∃ F2, Grow F1 H1 F2 H2 ∧ Rep κ F2 H2 d x
def tI (m : MI) : TI := fun σ H R => ∃ F ρ, EnvOk κ F σ H ρ ∧ Post κ W F σ H ρ (m ρ) fun ds F' H' _ => ∀ J, ISpec κ F' H' J ds → R J H'
/-- the slots at is alone change -/
def Off (is : List Nat) (σ σ' : L2.St) : Prop := ∀ vs : List Nat, (∀ i ∈ is, i ∈ vs) → wipe σ' vs = wipe σ vs
def tG (is : List Nat) (m : MG) : TG := fun x σ H Q => ∃ F ρ d, EnvOk κ F σ H ρ ∧ Rep κ F H d x ∧ ∃ ρ', m d ρ = some ρ' ∧ ∀ σ', Off is σ σ' → Stp F σ H ρ F σ' H ρ' → EnvOk κ F σ' H ρ' → Q σ' H
def tGs (is : List Nat) (m : MGs) : TGs := fun xs σ H Q => ∃ F ρ ds, EnvOk κ F σ H ρ ∧ Reps κ F H ds xs ∧ ∃ ρ', m ds ρ = some ρ' ∧ ∀ σ', Off is σ σ' → Stp F σ H ρ F σ' H ρ' → EnvOk κ F σ' H ρ' → Q σ' H
end
/-- a value's items -/
def itemsOf : D → Option (List D)
  | .lst ds => some ds
  | .tup ds => some ds
  | .str z => some (z.cps.toList.map fun c => .str ⟨#[c]⟩)
  | _ => none
def mItV (a : ME) : MI := fun ρ => (a ρ).bind fun r ρ1 => match r.frz ρ1 with
  | some (d, ρ2) => match itemsOf d with
    | some ds => .ok ds ρ2
    | none => .bad
  | none => .bad
def mRng1 (as : MA) : MI := fun ρ => (as ρ).bind fun rs ρ1 => match conts ρ1 rs with
  | some [.int j] => if -(2 ^ 62) ≤ j ∧ j < 2 ^ 62 then .ok ((List.range j.toNat).map fun i => .int (i : Nat)) ρ1 else .bad
  | _ => .bad
def mRng2 (as : MA) : MI := fun ρ => (as ρ).bind fun rs ρ1 => match conts ρ1 rs with
  | some [.int i, .int j] => if -(2 ^ 62) ≤ i ∧ i < 2 ^ 62 ∧ -(2 ^ 62) ≤ j ∧ j < 2 ^ 62 then .ok ((List.range (j - i).toNat).map fun k => .int (i + (k : Nat))) ρ1 else .bad
  | _ => .bad
def gtN (i : Nat) : MG := fun d ρ => put1 ρ i (.pu d)
def gtNil : MGs := fun ds ρ => match ds with
  | [] => some ρ
  | _ => none
def gtCons (g : MG) (gs : MGs) : MGs := fun ds ρ => match ds with
  | d :: ds => match g d ρ with
    | some ρ1 => gs ds ρ1
    | none => none
  | [] => none
def gtTup (n : Nat) (gs : MGs) : MG := fun d ρ => match d with
  | .tup ds => if ds.length = n then gs ds ρ else none
  | _ => none
def mLoop (g : MG) (b : MS) : List D → MS
  | [], ρ => .nx ρ
  | d :: ds, ρ => match g d ρ with
    | none => .bad
    | some ρ1 => match b ρ1 with
      | .nx ρ2 => mLoop g b ds ρ2
      | .ct ρ2 => mLoop g b ds ρ2
      | .br ρ2 => .nx ρ2
      | r => r
def mFor (mi : MI) (g : MG) (b : MS) : MS := fun ρ => liftE (mi ρ) fun ds ρ1 => mLoop g b ds ρ1
/-- xs[k] = v, xs a name -/
def mStore (i : Nat) (mi mv : ME) : MS := fun ρ => liftE (mv ρ) fun r ρ1 => match ρ1[i]? with
  | some (.ob _ _ _) => liftE (mi ρ1) fun ri ρ2 => match ri.cont ρ2 with
    | some (.int k) => match r.frz ρ2 with
      | some (d, ρ3) => match ρ3[i]? with
        | some (.ob p l (.lst xs)) => match ixN xs.length k with
          | some j => .nx (ρ3.set i (.ob p l (.lst (xs.set j d))))
          | none => .bad
        | _ => .bad
      | none => .bad
    | _ => .bad
  | _ => .bad
section
variable {κ : Nat → Addr} {W : WX} {F F1 F2 : Addr → Prop} {σ σ1 σ₀ : L2.St} {H H1 H2 H₀ : Hp} {ρ ρ1 ρ2 : Slots} {X : Cx} {a b e : Expr} {es : List Expr} {ma mb mi mv : ME} {ms : MA} {mb : MS} {pos : Pos} {E : Ends} {tg : Expr} {g : MG} {gs : MGs} {is js : List Nat}
theorem Off.refl : Off is σ σ := fun _ _ => rfl
theorem wipe_set {i : Nat} {v : Option V} : ∀ {vs : List Nat} {σ : L2.St}, i ∈ vs → wipe (σ.set i v) vs = wipe σ vs
  | [], _, h => absurd h (by simp)
  | k :: vs, σ, h => by
    unfold wipe
    by_cases hi : i ∈ vs
    · rw [wipe_set hi]
    · have e : i = k := by simpa [hi] using h
      subst e
      have q : ∀ {vs : List Nat} {σ : L2.St}, i ∉ vs → wipe (σ.set i v) vs = (wipe σ vs).set i v := by
        intro vs
        induction vs with
        | nil => intro σ _; rfl
        | cons k vs ih =>
          intro σ hk
          unfold wipe
          rw [ih fun z => hk (List.mem_cons_of_mem _ z), List.set_comm]
          rintro rfl
          exact hk List.mem_cons_self
      rw [q hi, List.set_set]
theorem pi_or {w w' : TI} (h : PI X tg e w) (h' : PI X tg e w') : PI X tg e (fun σ H R => w σ H R ∨ w' σ H R) :=
  ⟨fun pins s σ H R I q => q.elim (h.run pins s σ H R I) (h'.run pins s σ H R I)⟩
theorem PI.imp {w w' : TI} (h : PI X tg e w) (k : ∀ σ H R, w' σ H R → w σ H R) : PI X tg e w' := ⟨fun pins s σ H R I q => h.run pins s σ H R I (k _ _ _ q)⟩
theorem PG.imp {w w' : TG} (h : PG X tg w) (k : ∀ v σ H Q, w' v σ H Q → w v σ H Q) : PG X tg w' := ⟨fun pins s σ H v u Q I r q => h.run pins s σ H v u Q I r (k _ _ _ _ q)⟩
theorem PGs.imp {es : List Expr} {w w' : TGs} (h : PGs X es w) (k : ∀ v σ H Q, w' v σ H Q → w v σ H Q) : PGs X es w' := ⟨fun pins s σ H vs us Q I r q => h.run pins s σ H vs us Q I r (k _ _ _ _ q)⟩
theorem ISpec.lst {K : PySem.W.Frag} {a : Addr} {ds : List D} {vs : List V} (fa : F a) (hr : Rd H a (.lst vs)) (hv : Reps κ F H ds vs) : ISpec κ F H (Itl K a) ds where
  go := fun i H1 k hi => by
    have hi' : i < vs.length := by rw [hv.length]; exact hi
    exact ⟨vs, vs[i], .inl (Rd.keep (fun o => k a o fa) hr), by simp [hi']⟩
  stop := fun H1 k => ⟨vs, .inl (Rd.keep (fun o => k a o fa) hr), by rw [hv.length]; exact Nat.le_refl _⟩
  yld := fun i d F1 H1 x H2 k f t e y => by
    obtain ⟨rfl, y⟩ := y
    obtain ⟨w, e1, e2⟩ := hv.get e
    have := y vs (.inl (Rd.keep (fun o => k a o fa) hr))
    rw [e1] at this; cases this
    exact ⟨F1, .refl, Rep.mono f (fun b u fb => k b u fb) _ _ e2⟩
theorem ISpec.tup {K : PySem.W.Frag} {a : Addr} {ds : List D} {vs : List V} (fa : F a) (hr : Rd H a (.tup vs)) (hv : Reps κ F H ds vs) : ISpec κ F H (Itt K a) ds where
  go := fun i H1 k hi => by
    have hi' : i < vs.length := by rw [hv.length]; exact hi
    exact ⟨vs, vs[i], .inl (Rd.keep (fun o => k a o fa) hr), by simp [hi']⟩
  stop := fun H1 k => ⟨vs, .inl (Rd.keep (fun o => k a o fa) hr), by rw [hv.length]; exact Nat.le_refl _⟩
  yld := fun i d F1 H1 x H2 k f t e y => by
    obtain ⟨rfl, y⟩ := y
    obtain ⟨w, e1, e2⟩ := hv.get e
    have := y vs (.inl (Rd.keep (fun o => k a o fa) hr))
    rw [e1] at this; cases this
    exact ⟨F1, .refl, Rep.mono f (fun b u fb => k b u fb) _ _ e2⟩
theorem ISpec.str {z : Str} : ISpec κ F H (Its z) (z.cps.toList.map fun c => .str ⟨#[c]⟩) where
  go := fun i H1 k hi => by
    rw [List.length_map] at hi
    show i < z.cps.size
    simpa using hi
  stop := fun H1 k => by
    show z.cps.size ≤ _
    simp
  yld := fun i d F1 H1 x H2 k f t e y => by
    obtain ⟨rfl, c, e1, rfl⟩ := y
    refine ⟨F1, .refl, ?_⟩
    rw [List.getElem?_map] at e
    have e2 : z.cps.toList[i]? = some c := by simpa using e1
    rw [e2] at e
    cases e
    rfl
theorem ISpec.rng {lo : Int} {n : Nat} : ISpec κ F H (Itr lo n) ((List.range n).map fun k => .int (lo + (k : Nat))) where
  go := fun i H1 k hi => by show i < n; simpa using hi
  stop := fun H1 k => by show n ≤ _; simp
  yld := fun i d F1 H1 x H2 k f t e y => by
    obtain ⟨rfl, rfl⟩ := y
    refine ⟨F1, .refl, ?_⟩
    rw [List.getElem?_map] at e
    by_cases hi : i < n
    · rw [List.getElem?_range hi] at e
      cases e
      rfl
    · rw [List.getElem?_eq_none (by simpa using hi)] at e
      cases e
theorem si_val (he : PE X e (tE κ W ma)) : PI X tg e (tI κ W (mItV ma)) := by
  refine PI.imp (pi_or (pi_list he) (pi_or (pi_tup he) (pi_str he))) ?_
  rintro σ H R ⟨F, ρ, en, p⟩
  have p0 := p
  unfold mItV at p0
  cases hm : ma ρ with
  | bad => rw [hm] at p0; exact p0.elim
  | rai x ρ1 => exact .inl ⟨F, ρ, en, by rw [hm] at p0 ⊢; exact p0⟩
  | ok r ρ1 =>
    rw [hm] at p0
    have p1 : Post κ W F σ H ρ (match r.frz ρ1 with
      | some (d, ρ2) => match itemsOf d with
        | some ds => Res.ok ds ρ2
        | none => .bad
      | none => .bad) fun ds F' H' _ => ∀ J, ISpec κ F' H' J ds → R J H' := p0
    cases hz : r.frz ρ1 with
    | none => rw [hz] at p1; exact p1.elim
    | some q =>
      obtain ⟨d, ρ2⟩ := q
      rw [hz] at p1
      cases d with
      | lst ds =>
        refine .inl ⟨F, ρ, en, ?_⟩
        rw [hm]
        intro F1 H1 s1 e1 v rv
        obtain ⟨F2, s2, e2, rp, _⟩ := freeze s1 e1 rv hz
        obtain ⟨a, vs, rfl, fa, h1, h2⟩ := rp
        exact ⟨a, rfl, ⟨vs, .inl h1⟩, p1 F2 H1 s2 e2 _ (.lst fa h1 h2)⟩
      | tup ds =>
        refine .inr (.inl ⟨F, ρ, en, ?_⟩)
        rw [hm]
        intro F1 H1 s1 e1 v rv
        obtain ⟨F2, s2, e2, rp, _⟩ := freeze s1 e1 rv hz
        obtain ⟨a, vs, rfl, fa, h1, h2⟩ := rp
        exact ⟨a, rfl, ⟨vs, .inl h1⟩, p1 F2 H1 s2 e2 _ (.tup fa h1 h2)⟩
      | str z =>
        refine .inr (.inr ⟨F, ρ, en, ?_⟩)
        rw [hm]
        intro F1 H1 s1 e1 v rv
        obtain ⟨F2, s2, e2, rp, _⟩ := freeze s1 e1 rv hz
        have rp : v = .str z := rp
        subst rp
        exact ⟨z, rfl, p1 F2 H1 s2 e2 _ .str⟩
      | _ => exact p1.elim
theorem si_rng1 {p : Pos} (hg : Gl X "range") (hm : X.mg "range" = none) (ha : PA X [a] (tA κ W ms)) (hs : starEach [a] X.env = [(false, eval a X.env)]) : PI X tg (.Call (.Name "range" p) [a] [] pos) (tI κ W (mRng1 ms)) := by
  refine PI.imp (pi_range1 hg hm ha hs) ?_
  rintro σ H R ⟨F, ρ, en, p⟩
  refine ⟨F, ρ, en, p.bindO fun rs F1 H1 ρ1 _ s1 e1 p1 vs rv => ?_⟩
  cases hc : conts ρ1 rs with
  | none => rw [hc] at p1; exact p1.elim
  | some ds =>
    rw [hc] at p1
    have bo := rv.bors e1 hc
    match ds, p1, bo with
    | [], p1, _ => exact p1.elim
    | [d], p1, bo =>
      cases d with
      | int j =>
        by_cases hj : -(2 ^ 62) ≤ j ∧ j < 2 ^ 62
        · simp only [if_pos hj] at p1
          obtain ⟨x, rfl, b1⟩ := bo.inv1
          rw [b1.int]
          refine ⟨j, rfl, hj.1, hj.2, p1 F1 H1 s1 e1 _ ?_⟩
          have := ISpec.rng (κ := κ) (F := F1) (H := H1) (lo := 0) (n := j.toNat)
          simpa using this
        · simp only [if_neg hj] at p1; exact p1.elim
      | _ => exact p1.elim
    | d :: _ :: _, p1, _ => cases d <;> exact p1.elim
theorem si_rng2 {p : Pos} (hg : Gl X "range") (hm : X.mg "range" = none) (ha : PA X [a, b] (tA κ W ms)) (hs : starEach [a, b] X.env = [(false, eval a X.env), (false, eval b X.env)]) (hs2 : starEach [b] X.env = [(false, eval b X.env)]) :
    PI X tg (.Call (.Name "range" p) [a, b] [] pos) (tI κ W (mRng2 ms)) := by
  refine PI.imp (pi_range2 hg hm ha hs hs2) ?_
  rintro σ H R ⟨F, ρ, en, p⟩
  refine ⟨F, ρ, en, p.bindO fun rs F1 H1 ρ1 _ s1 e1 p1 vs rv => ?_⟩
  cases hc : conts ρ1 rs with
  | none => rw [hc] at p1; exact p1.elim
  | some ds =>
    rw [hc] at p1
    have bo := rv.bors e1 hc
    match ds, p1, bo with
    | [], p1, _ => exact p1.elim
    | [d], p1, bo => cases d <;> exact p1.elim
    | [d, e], p1, bo =>
      cases d with
      | int i =>
        cases e with
        | int j =>
          by_cases hj : -(2 ^ 62) ≤ i ∧ i < 2 ^ 62 ∧ -(2 ^ 62) ≤ j ∧ j < 2 ^ 62
          · simp only [if_pos hj] at p1
            obtain ⟨x, y, rfl, b1, b2⟩ := bo.inv2
            rw [b1.int, b2.int]
            exact ⟨i, j, rfl, hj, p1 F1 H1 s1 e1 _ .rng⟩
          · simp only [if_neg hj] at p1; exact p1.elim
        | _ => exact p1.elim
      | _ => exact p1.elim
    | d :: e :: _ :: _, p1, _ => cases d <;> first | exact p1.elim | (cases e <;> exact p1.elim)

/-! targets -/
theorem sg_name {i : Nat} {x : Str} (hN : X.N.Nodup) (hi : X.N[i]? = some x) (hx : Loc X.env.scope x) (hf : X.fn x = true ∨ X.env.scope.names.lookup x = some .local) : PG X (.Name x pos) (tG κ [i] (gtN i)) := by
  refine PG.imp (pg_name hN hi hx hf) ?_
  rintro v σ H Q ⟨F, ρ, d, en, rp, ρ', e, q⟩
  obtain ⟨s1, e1⟩ := put1_ok (σ₀ := σ) (H := H) (v := v) (r := .pu d) .refl en rp e
  exact q _ (fun vs h => wipe_set (h i List.mem_cons_self)) s1 e1
theorem sgs_nil {hgn : PGs X [] gNil} : PGs X [] (tGs κ [] gtNil) := by
  refine PGs.imp hgn ?_
  rintro xs σ H Q ⟨F, ρ, ds, en, rp, ρ', e, q⟩
  cases ds with
  | nil => cases e; exact ⟨rp, q σ .refl .refl en⟩
  | cons d ds => cases e
theorem Off.trans {σ' σ'' : L2.St} (h : Off is σ σ') (h' : Off js σ' σ'') : Off (is ++ js) σ σ'' := fun vs q => (h' vs fun i hi => q i (by simp [hi])).trans (h vs fun i hi => q i (by simp [hi]))
theorem tgs_cons : ∀ {xs : List V} {σ : L2.St} {H : Hp} {Q : L2.St → Hp → Prop}, tGs κ (is ++ js) (gtCons g gs) xs σ H Q → gCons (tG κ is g) (tGs κ js gs) xs σ H Q := by
  rintro xs σ H Q ⟨F, ρ, ds, en, rp, ρ', e, q⟩
  cases ds with
  | nil => cases e
  | cons d ds =>
    obtain ⟨v, r, rfl, h1, h2⟩ := rp
    refine ⟨v, r, rfl, F, ρ, d, en, h1, ?_⟩
    unfold gtCons at e
    cases hz : g d ρ with
    | none => simp only [hz] at e; cases e
    | some ρ1 =>
      simp only [hz] at e
      exact ⟨ρ1, rfl, fun σ' o1 s1 e1 => ⟨F, ρ1, ds, e1, h2, ρ', e, fun σ'' o2 s2 e2 => q σ'' (o1.trans o2) (s1.trans s2) e2⟩⟩
theorem tg_tup {n : Nat} : ∀ {x : V} {σ : L2.St} {H : Hp} {Q : L2.St → Hp → Prop}, tG κ is (gtTup n gs) x σ H Q → gTup X.K n (tGs κ is gs) x σ H Q := by
  rintro x σ H Q ⟨F, ρ, d, en, rp, ρ', e, q⟩
  cases d with
  | tup ds =>
    by_cases hn : ds.length = n
    · have e : gs ds ρ = some ρ' := by simpa [gtTup, hn] using e
      obtain ⟨a, vs, rfl, fa, h1, h2⟩ := rp
      exact ⟨a, vs, rfl, .inl h1, by rw [h2.length]; exact hn, F, ρ, ds, en, h2, ρ', e, q⟩
    · have e : (none : Option Slots) = some ρ' := by simpa [gtTup, hn] using e
      cases e
  | _ => cases e

/-! for -/
theorem PostS.ends {res : SRes} {E' : Ends} (h : PostS κ W F σ H ρ res E) (hn : ∀ F' σ' H' ρ', Stp F σ H ρ F' σ' H' ρ' → EnvOk κ F' σ' H' ρ' → (res = .nx ρ' → E.nx σ' H' → E'.nx σ' H') ∧ (res = .ct ρ' → E.ct σ' H' → E'.ct σ' H') ∧ (res = .br ρ' → E.bk σ' H' → E'.bk σ' H'))
    (hr : ∀ v H', E.rt v H' → E'.rt v H') : PostS κ W F σ H ρ res E' := by
  cases res with
  | nx ρ' => exact fun F' σ' H' t e => (hn F' σ' H' ρ' t e).1 rfl (h F' σ' H' t e)
  | br ρ' => exact fun F' σ' H' t e => (hn F' σ' H' ρ' t e).2.2 rfl (h F' σ' H' t e)
  | ct ρ' => exact fun F' σ' H' t e => (hn F' σ' H' ρ' t e).2.1 rfl (h F' σ' H' t e)
  | rt r ρ' => exact fun v F' σ' H' t e q => hr v H' (h v F' σ' H' t e q)
  | rai x ρ' => exact h
  | bad => exact h.elim
theorem Stp.keeps {F' : Addr → Prop} {σ' : L2.St} {H' : Hp} {ρ' : Slots} (s : Stp F σ H ρ F' σ' H' ρ') (e : EnvOk κ F σ H ρ) : Keeps F H H' := fun a u fa hu => s.h a u hu fun q => (e.ownF q).1 fa
theorem Grow.keeps {F' : Addr → Prop} {H' : Hp} (s : Grow F H F' H') : Keeps F H H' := fun a u fa hu => s.h a u hu
theorem Keeps.trans {F0 : Addr → Prop} {H0 : Hp} (h : Keeps F0 H0 H) (f : ∀ a, F0 a → F a) (h' : Keeps F H H1) : Keeps F0 H0 H1 := fun a u fa hu => h' a u (f a fa) (h a u fa hu)
theorem ss_for {iter : Expr} {sb : List Stmt} {mit : MI} (hp : PassesOwn (model X.prog X.w) X.A X.env X.xe) (hc : X.calm = true) (hi : PI X tg iter (tI κ W mit)) (hg : PG X tg (tG κ is g)) (hb : PSs X sb (tS κ W mb)) (hs : ∀ x, foldedSetIterable iter X.env x = pure x) :
    PS X (.For tg iter sb [] pos) (tS κ W (mFor mit g mb)) := by
  refine PS.imp (ps_for hp hc hi hg hb hs) ?_
  rintro E σ H ⟨F, ρ, en, p⟩
  refine ⟨F, ρ, en, p.lift fun ds F0 H0 ρ0 _ s0 e0 p0 J sp => ?_⟩
  refine ⟨fun i m σ H => ∃ F ρ, EnvOk κ F σ H ρ ∧ (∀ a, F0 a → F a) ∧ Keeps F0 H0 H ∧ i ≤ ds.length ∧ m = ds.length - i ∧ PostS κ W F σ H ρ (mLoop g mb (ds.drop i) ρ) E, ⟨_, F0, ρ0, e0, fun _ q => q, fun _ _ _ q => q, Nat.zero_le _, rfl, p0.after s0⟩, ?_⟩
  rintro i m σ H ⟨F, ρ, en, fF, kk, hi, rfl, p⟩
  by_cases hlt : i < ds.length
  · refine .inr ⟨sp.go i H kk hlt, fun σ' H' => ∃ F' ρ', EnvOk κ F' σ' H' ρ' ∧ (∀ a, F0 a → F' a) ∧ Keeps F0 H0 H' ∧ PostS κ W F' σ' H' ρ' (mLoop g mb (ds.drop (i + 1)) ρ') E, ?_, fun x H' y => ?_⟩
    · rintro σ' H' ⟨F', ρ', e', f', k', p'⟩
      exact ⟨ds.length - (i + 1), by omega, F', ρ', e', f', k', hlt, rfl, p'⟩
    · have ed : ds[i]? = some ds[i] := by simp [hlt]
      obtain ⟨F2, gr, rp⟩ := sp.yld i ds[i] F H x H' kk fF en.trk ed y
      have e2 := gr.env en
      have p := p.after gr.stp
      rw [List.drop_eq_getElem_cons hlt] at p
      unfold mLoop at p
      cases hz : g ds[i] ρ with
      | none => simp only [hz] at p; exact p.elim
      | some ρ1 =>
        simp only [hz] at p
        refine ⟨F2, ρ, ds[i], e2, rp, ρ1, hz, fun σ' _ s3 e3 => ⟨F2, ρ1, e3, ?_⟩⟩
        have key : ∀ F' σ'' H'' ρ', Stp F2 σ' H' ρ1 F' σ'' H'' ρ' → EnvOk κ F' σ'' H'' ρ' → PostS κ W F' σ'' H'' ρ' (mLoop g mb (ds.drop (i + 1)) ρ') E → ∃ F' ρ', EnvOk κ F' σ'' H'' ρ' ∧ (∀ a, F0 a → F' a) ∧ Keeps F0 H0 H'' ∧ PostS κ W F' σ'' H'' ρ' (mLoop g mb (ds.drop (i + 1)) ρ') E :=
          fun F' σ'' H'' ρ' t e q => ⟨F', ρ', e, fun a fa => t.f a (gr.f a (fF a fa)), (kk.trans fF gr.keeps).trans (fun a fa => gr.f a (fF a fa)) (t.keeps e3), q⟩
        refine (loop_post (f := mLoop g mb (ds.drop (i + 1))) (p.after s3)).ends (fun F' σ'' H'' ρ' t e => ⟨?_, ?_, fun _ q => q⟩) fun _ _ q => q
        · rintro _ ⟨F', ρ', e, t, q⟩
          exact key F' _ _ ρ' t e q
        · rintro _ ⟨F', ρ', e, t, q⟩
          exact key F' _ _ ρ' t e q
  · have hi : i = ds.length := by omega
    subst hi
    rw [List.drop_length] at p
    exact .inl ⟨sp.stop H kk, p F σ H .refl en⟩

/-! xs[k] = v -/
theorem PostS.lift1 {α : Type} {res : Res α} {f : α → Slots → SRes} {k : α → (Addr → Prop) → Hp → Slots → Prop} (s : Stp F σ H ρ F1 σ H1 ρ1) (h : PostS κ W F σ H ρ (liftE res f) E)
    (q : ∀ a F' H' ρ', res = .ok a ρ' → Stp F1 σ H1 ρ1 F' σ H' ρ' → EnvOk κ F' σ H' ρ' → PostS κ W F σ H ρ (f a ρ') E → k a F' H' ρ') : Post κ W F1 σ H1 ρ1 res k := by
  cases res with
  | ok a ρ' => exact fun F' H' t e => q a F' H' ρ' rfl t e h
  | rai x ρ' => exact fun c o F' H' t e q => h c o F' σ H' (s.trans t) e q
  | bad => exact h.elim
theorem store_post {i : Nat} (h : tS κ W (mStore i mi mv) E σ H) : tAsg (tE κ W mv) (L2.gSub (tVar i) (tE κ W mi) rSetL) E σ H := by
  obtain ⟨F, ρ, en, p⟩ := h
  refine ⟨F, ρ, en, p.lift fun r F1 H1 ρ1 _ s1 e1 p1 v rv => ?_⟩
  cases hi : ρ1[i]? with
  | none => rw [hi] at p1; exact p1.elim
  | some sv =>
    rw [hi] at p1
    cases sv with
    | ob p l d =>
      obtain ⟨w, q1, a, rfl, nf, ow⟩ := e1.sl i _ hi
      refine ⟨.ref a, q1, F1, ρ1, e1, PostS.lift1 s1 p1 fun ri F2 H2 ρ2 _ s2 e2 p2 y rvi => ?_⟩
      cases hc : ri.cont ρ2 with
      | none => rw [hc] at p2; exact p2.elim
      | some di =>
        rw [hc] at p2
        have bo := rvi.bor e2 hc
        cases di with
        | int k =>
          cases hz : r.frz ρ2 with
          | none => simp only [hz] at p2; exact p2.elim
          | some q =>
            obtain ⟨d', ρ3⟩ := q
            simp only [hz] at p2
            have rv2 := s2.rrep e1 rv
            obtain ⟨F3, s3, e3, rp, _⟩ := freeze (s1.trans s2) e2 rv2 hz
            cases hi3 : ρ3[i]? with
            | none => rw [hi3] at p2; exact p2.elim
            | some sv3 =>
              rw [hi3] at p2
              cases sv3 with
              | ob p' l' d3 =>
                cases d3 with
                | lst xs =>
                  cases hj : ixN xs.length k with
                  | none => simp only [hj] at p2; exact p2.elim
                  | some j =>
                    simp only [hj] at p2
                    obtain ⟨w3, q3, a3, rfl, nf3, vs, ow3, rvs⟩ := e3.sl i _ hi3
                    rw [q1] at q3; cases q3
                    have nm : ∀ b u, F3 b → H2 b = some u → upd H2 a (.lst (vs.set j v)) b = some u := fun b u fb hb => by
                      rw [upd_ne ?_]
                      · exact hb
                      · rintro rfl; exact nf3 fb
                    obtain ⟨s4, e4⟩ := change (u := .lst (vs.set j v)) (d' := .lst (xs.set j d')) s3 e3 hi3 q1 ⟨vs.set j v, upd_same, Reps.mono (fun _ z => z) nm _ _ (rvs.set rp j)⟩
                    refine ⟨a, vs, k, j, rfl, bo.int, ow3, by rw [rvs.length]; exact hj, p2 F3 σ _ s4 e4⟩
                | _ => exact p2.elim
              | _ => exact p2.elim
        | _ => exact p2.elim
    | _ => exact p1.elim
end
end JM

namespace JM
open PySem PySem.Spec L2

/-! ### list comprehensions -/
def wipeS (ρ : Slots) : List Nat → Slots
  | [] => ρ
  | v :: vs => (wipeS ρ vs).set v .un
def putBack (ρ₀ ρ : Slots) : List Nat → Slots
  | [] => ρ
  | v :: vs => match ρ₀[v]? with
    | some sv => (putBack ρ₀ ρ vs).set v sv
    | none => putBack ρ₀ ρ vs
def noOb (ρ : Slots) (vs : List Nat) : Bool := vs.all fun i => match ρ[i]? with
  | some (.ob _ _ _) => false
  | some _ => true
  | none => false
def mLcLoop (g : MG) (t : MT) (e : ME) (vs : List Nat) : List D → List D → Slots → Res (List D)
  | [], acc, ρ => .ok acc ρ
  | d :: ds, acc, ρ => match g d ρ with
    | none => .bad
    | some ρ1 => match t ρ1 with
      | .ok true ρ2 => match e ρ2 with
        | .ok r ρ3 => match r.frz ρ3 with
          | some (x, ρ4) => mLcLoop g t e vs ds (acc ++ [x]) (wipeS ρ4 vs)
          | none => .bad
        | _ => .bad
      | .ok false ρ2 => mLcLoop g t e vs ds acc (wipeS ρ2 vs)
      | _ => .bad
def mLc (mi : MI) (g : MG) (t : MT) (e : ME) (vs : List Nat) : ME := fun ρ => (mi ρ).bind fun ds ρ1 =>
  if noOb ρ1 vs = true then (if ds.length ≤ sizeLine then (match mLcLoop g t e vs ds [] (wipeS ρ1 vs) with
    | .ok acc ρ2 => .ok (.fr (.lst acc)) (putBack ρ1 ρ2 vs)
    | _ => .bad) else .bad) else .bad
def mYes : MT := fun ρ => .ok true ρ

theorem wipeS_length (ρ : Slots) : ∀ vs : List Nat, (wipeS ρ vs).length = ρ.length
  | [] => rfl
  | v :: vs => by unfold wipeS; rw [List.length_set, wipeS_length ρ vs]
theorem wipeS_out {ρ : Slots} {i : Nat} : ∀ {vs : List Nat}, i ∉ vs → (wipeS ρ vs)[i]? = ρ[i]?
  | [], _ => rfl
  | v :: vs, h => by
    unfold wipeS
    rw [List.getElem?_set_ne (by rintro rfl; exact h List.mem_cons_self)]
    exact wipeS_out fun z => h (List.mem_cons_of_mem _ z)
theorem wipeS_in {ρ : Slots} {i : Nat} {sv : SV} : ∀ {vs : List Nat}, i ∈ vs → (wipeS ρ vs)[i]? = some sv → sv = .un
  | [], h, _ => absurd h (by simp)
  | v :: vs, h, e => by
    unfold wipeS at e
    by_cases hi : v = i
    · subst hi
      have il : v < (wipeS ρ vs).length := by
        have := (List.getElem?_eq_some_iff.mp e).1
        simpa using this
      rw [List.getElem?_set_self il] at e
      cases e; rfl
    · rw [List.getElem?_set_ne hi] at e
      exact wipeS_in (by simpa [Ne.symm hi] using h) e
theorem wipe_out {σ : L2.St} {i : Nat} : ∀ {vs : List Nat}, i ∉ vs → (wipe σ vs)[i]? = σ[i]?
  | [], _ => rfl
  | v :: vs, h => by
    unfold wipe
    rw [List.getElem?_set_ne (by rintro rfl; exact h List.mem_cons_self)]
    exact wipe_out fun z => h (List.mem_cons_of_mem _ z)
theorem wipe_in {σ : L2.St} {i : Nat} {v : Option V} : ∀ {vs : List Nat}, i ∈ vs → (wipe σ vs)[i]? = some v → v = none
  | [], h, _ => absurd h (by simp)
  | k :: vs, h, e => by
    unfold wipe at e
    by_cases hi : k = i
    · subst hi
      have il : k < (wipe σ vs).length := by
        have := (List.getElem?_eq_some_iff.mp e).1
        simpa using this
      rw [List.getElem?_set_self il] at e
      cases e; rfl
    · rw [List.getElem?_set_ne hi] at e
      exact wipe_in (by simpa [Ne.symm hi] using h) e
theorem wipe_idem (σ : L2.St) (vs : List Nat) : wipe (wipe σ vs) vs = wipe σ vs := by
  apply List.ext_getElem?
  intro i
  by_cases hi : i ∈ vs
  · cases e1 : (wipe (wipe σ vs) vs)[i]? with
    | none =>
      have h1 := List.getElem?_eq_none_iff.mp e1
      rw [wipe_length] at h1
      rw [List.getElem?_eq_none_iff.mpr h1]
    | some x =>
      have h1 := (List.getElem?_eq_some_iff.mp e1).1
      rw [wipe_length] at h1
      cases e2 : (wipe σ vs)[i]? with
      | none => exact absurd (List.getElem?_eq_none_iff.mp e2) (by omega)
      | some y => rw [wipe_in hi e1, wipe_in hi e2]
  · rw [wipe_out hi]
theorem putBack_length (ρ₀ ρ : Slots) : ∀ vs : List Nat, (putBack ρ₀ ρ vs).length = ρ.length
  | [] => rfl
  | v :: vs => by
    unfold putBack
    split
    · rw [List.length_set, putBack_length ρ₀ ρ vs]
    · exact putBack_length ρ₀ ρ vs
theorem putBack_out {ρ₀ ρ : Slots} {i : Nat} : ∀ {vs : List Nat}, i ∉ vs → (putBack ρ₀ ρ vs)[i]? = ρ[i]?
  | [], _ => rfl
  | v :: vs, h => by
    unfold putBack
    split
    · rw [List.getElem?_set_ne (by rintro rfl; exact h List.mem_cons_self)]
      exact putBack_out fun z => h (List.mem_cons_of_mem _ z)
    · exact putBack_out fun z => h (List.mem_cons_of_mem _ z)
theorem putBack_in {ρ₀ ρ : Slots} {i : Nat} (hl : ρ₀.length = ρ.length) : ∀ {vs : List Nat}, i ∈ vs → (putBack ρ₀ ρ vs)[i]? = ρ₀[i]?
  | [], h => absurd h (by simp)
  | v :: vs, h => by
    unfold putBack
    by_cases hi : v = i
    · subst hi
      cases e : ρ₀[v]? with
      | none =>
        have h1 := List.getElem?_eq_none_iff.mp e
        exact List.getElem?_eq_none_iff.mpr (by rw [putBack_length, ← hl]; exact h1)
      | some sv =>
        have h1 := (List.getElem?_eq_some_iff.mp e).1
        exact List.getElem?_set_self (by rw [putBack_length, ← hl]; exact h1)
    · have h' : i ∈ vs := by simpa [Ne.symm hi] using h
      split
      · rw [List.getElem?_set_ne hi]; exact putBack_in hl h'
      · exact putBack_in hl h'
section
variable {κ : Nat → Addr} {W : WX} {F F0 F1 F2 : Addr → Prop} {σ σ' σ1 σ₀ : L2.St} {H H0 H1 H2 H₀ : Hp} {ρ ρ0 ρ1 ρ2 ρi : Slots} {vs : List Nat}
theorem ownS_wipe {a : Addr} (h : OwnS (wipe σ vs) (wipeS ρ vs) a) : OwnS σ ρ a := by
  obtain ⟨i, p, l, d, h1, h2⟩ := h
  by_cases hi : i ∈ vs
  · have := wipeS_in hi h1; cases this
  · rw [wipeS_out hi] at h1
    rw [wipe_out hi] at h2
    exact ⟨i, p, l, d, h1, h2⟩
theorem EnvOk.wipe (e : EnvOk κ F σ H ρ) (vs : List Nat) : EnvOk κ F (wipe σ vs) H (wipeS ρ vs) := by
  refine ⟨by rw [wipe_length, wipeS_length]; exact e.len, e.trk, fun i sv h => ?_, fun i j p l d p' l' d' a h1 h2 h3 h4 => ?_⟩
  · by_cases hi : i ∈ vs
    · have e1 := wipeS_in hi h
      subst e1
      have il := (List.getElem?_eq_some_iff.mp h).1
      rw [wipeS_length, e.len, ← wipe_length σ vs] at il
      exact ⟨_, List.getElem?_eq_getElem il, True.intro⟩
    · rw [wipeS_out hi] at h
      rw [wipe_out hi]
      exact e.sl i sv h
  · have hi : i ∉ vs := fun z => by have := wipeS_in z h1; cases this
    have hj : j ∉ vs := fun z => by have := wipeS_in z h2; cases this
    rw [wipeS_out hi] at h1
    rw [wipeS_out hj] at h2
    rw [wipe_out hi] at h3
    rw [wipe_out hj] at h4
    exact e.one i j _ _ _ _ _ _ a h1 h2 h3 h4
/-- a new object's address changes -/
theorem Stp.updNew (T : Stp F0 σ₀ H0 ρ0 F1 σ1 H1 ρ1) {p : Addr} {u : HO} (hD : H0 p = none) : Stp F0 σ₀ H0 ρ0 F1 σ1 (upd H1 p u) ρ1 :=
  ⟨T.f, T.n, T.o, fun a w h n => by rw [upd_ne (ne_of_none h hD)]; exact T.h a w h n, fun a h => by
    by_cases e : a = p
    · subst e; rw [upd_same]; simp
    · rw [upd_ne e]; exact T.t a h, T.par⟩
theorem Stp.wiped (T : Stp F0 σ₀ H0 ρ0 F1 σ1 H1 ρ1) (h : ∀ j ∈ vs, ∀ sv, ρ0[j]? = some sv → sv.isPar = false) : Stp F0 σ₀ H0 ρ0 F1 (wipe σ1 vs) H1 (wipeS ρ1 vs) :=
  ⟨T.f, T.n, fun a q => T.o a (ownS_wipe q), T.h, T.t, fun j sv e p => by
    have hj : j ∉ vs := fun z => by rw [h j z sv e] at p; cases p
    rw [wipeS_out hj, wipe_out hj]
    exact T.par j sv e p⟩
theorem blk_out (e1 : EnvOk κ F0 σ H0 ρ1) (T : Stp F0 (wipe σ vs) H0 (wipeS ρ1 vs) F (wipe σ vs) H ρi) (e : EnvOk κ F (wipe σ vs) H ρi) (no : noOb ρ1 vs = true) :
    Stp F0 σ H0 ρ1 F σ H (putBack ρ1 ρi vs) ∧ EnvOk κ F σ H (putBack ρ1 ρi vs) ∧ ∀ a, OwnS σ (putBack ρ1 ρi vs) a → OwnS (wipe σ vs) ρi a := by
  have hl : ρ1.length = ρi.length := by rw [e.len, wipe_length]; exact e1.len
  have nob : ∀ i ∈ vs, ∀ p l d, ρ1[i]? ≠ some (.ob p l d) := fun i hi p l d q => by
    have := List.all_eq_true.mp no i hi
    rw [q] at this; cases this
  have own : ∀ a, OwnS σ (putBack ρ1 ρi vs) a → OwnS (wipe σ vs) ρi a := fun a ⟨i, p, l, d, h1, h2⟩ => by
    by_cases hi : i ∈ vs
    · rw [putBack_in hl hi] at h1
      exact absurd h1 (nob i hi p l d)
    · rw [putBack_out hi] at h1
      exact ⟨i, p, l, d, h1, by rw [wipe_out hi]; exact h2⟩
  have own0 : ∀ a, OwnS (wipe σ vs) (wipeS ρ1 vs) a → OwnS σ ρ1 a := fun a q => ownS_wipe q
  have fz : ∀ a u, F0 a → H0 a = some u → H a = some u := fun a u fa hu => T.h a u hu fun q => (e1.ownF (own0 a q)).1 fa
  refine ⟨⟨T.f, fun a q => ?_, fun a q => ?_, fun a u h n => T.h a u h fun q => n (own0 a q), T.t, fun i sv h p => ?_⟩, ⟨by rw [putBack_length, e.len, wipe_length], e.trk, fun i sv h => ?_, fun i j p l d p' l' d' a h1 h2 h3 h4 => ?_⟩, own⟩
  · rcases T.n a q with q | q | q
    · exact .inl q
    · exact .inr (.inl (own0 a q))
    · exact .inr (.inr q)
  · rcases T.o a (own a q) with q | q
    · exact .inl (own0 a q)
    · exact .inr q
  · by_cases hi : i ∈ vs
    · rw [putBack_in hl hi]
      exact ⟨⟨sv, h, p⟩, rfl⟩
    · rw [putBack_out hi]
      obtain ⟨q1, q2⟩ := T.par i sv (by rw [wipeS_out hi]; exact h) p
      exact ⟨q1, rfl⟩
  · by_cases hi : i ∈ vs
    · rw [putBack_in hl hi] at h
      obtain ⟨w, k1, k2⟩ := e1.sl i sv h
      refine ⟨w, k1, ?_⟩
      cases sv with
      | un => trivial
      | pu d => obtain ⟨w', e1, q⟩ := k2; exact ⟨w', e1, Rep.mono T.f fz d w' q⟩
      | pf d => obtain ⟨w', e1, q⟩ := k2; exact ⟨w', e1, Rep.mono T.f fz d w' q⟩
      | ob p l d => exact absurd h (nob i hi p l d)
    · rw [putBack_out hi] at h
      have := e.sl i sv h
      rw [wipe_out hi] at this
      exact this
  · have hi : i ∉ vs := fun z => nob i z p l d (by rw [putBack_in hl z] at h1; exact h1)
    have hj : j ∉ vs := fun z => nob j z p' l' d' (by rw [putBack_in hl z] at h2; exact h2)
    rw [putBack_out hi] at h1
    rw [putBack_out hj] at h2
    exact e.one i j _ _ _ _ _ _ a h1 h2 (by rw [wipe_out hi]; exact h3) (by rw [wipe_out hj]; exact h4)
/-- an object of no one's -/
structure Free (F : Addr → Prop) (σ : L2.St) (H : Hp) (ρ : Slots) (p : Addr) (u : HO) : Prop where
  is : H p = some u
  nf : ¬ F p
  no : ¬ OwnS σ ρ p
theorem Free.stp {p : Addr} {u : HO} (x : Free F σ H ρ p u) (s : Stp F σ H ρ F1 σ1 H1 ρ1) : Free F1 σ1 H1 ρ1 p u where
  is := s.h p u x.is x.no
  nf := fun q => by
    rcases s.n p q with q | q | q
    · exact x.nf q
    · exact x.no q
    · rw [x.is] at q; cases q
  no := fun q => by
    rcases s.o p q with q | q
    · exact x.no q
    · rw [x.is] at q; cases q
theorem EnvOk.updFree {p : Addr} {u w : HO} (e : EnvOk κ F σ H ρ) (x : Free F σ H ρ p u) : EnvOk κ F σ (upd H p w) ρ :=
  e.grow (fun _ q => q) (fun a q => .inl q) (fun a y h hy => by
    rw [upd_ne ?_]
    · exact hy
    · rintro rfl
      exact h.elim x.nf x.no) fun a fa => by
    by_cases q : a = p
    · subst q; rw [upd_same]; simp
    · rw [upd_ne q]; exact e.trk a fa
end
section
variable {κ : Nat → Addr} {W : WX} {X : Cx} {is : List Nat} {g : MG} {mt : MT} {me : ME} {mi : MI} {σ : L2.St} {H : Hp} {Q : VK} {vs : List Nat}
abbrev noW : WX := fun _ _ _ _ => False
theorem lc_post (his : ∀ i ∈ is, i ∈ vs) (h : tE κ W (mLc mi g mt me vs) σ H Q) : tLc (tI κ W mi) (tG κ is g) (tT κ noW mt) (tE κ noW me) vs σ H Q := by
  obtain ⟨F, ρ, en, p⟩ := h
  refine ⟨F, ρ, en, p.bindO fun ds F0 H0 ρ1 _ s0 e0 p0 J sp Da hDa => ?_⟩
  have p1 : Post κ W F σ H ρ (if noOb ρ1 vs = true then (if ds.length ≤ sizeLine then (match mLcLoop g mt me vs ds [] (wipeS ρ1 vs) with
    | .ok acc ρ2 => .ok (.fr (.lst acc)) (putBack ρ1 ρ2 vs)
    | _ => .bad) else .bad) else .bad : Res RV) fun r F' H' ρ' => ∀ v, RRep κ F' σ H H' ρ' v r → Q v H' := p0
  clear p0
  by_cases no : noOb ρ1 vs = true
  · rw [if_pos no] at p1
    by_cases hz : ds.length ≤ sizeLine
    · rw [if_pos hz] at p1
      cases hR : mLcLoop g mt me vs ds [] (wipeS ρ1 vs) with
      | rai x ρ2 => rw [hR] at p1; exact p1.elim
      | bad => rw [hR] at p1; exact p1.elim
      | ok accF ρE =>
        rw [hR] at p1
        have p1 : ∀ F' H', Stp F σ H ρ F' σ H' (putBack ρ1 ρE vs) → EnvOk κ F' σ H' (putBack ρ1 ρE vs) → ∀ v, RRep κ F' σ H H' (putBack ρ1 ρE vs) v (.fr (.lst accF)) → Q v H' := p1
        have ew := e0.wipe vs
        refine ⟨fun i m H => ∃ F ρi acc accV, EnvOk κ F (wipe σ vs) H ρi ∧ Stp F0 (wipe σ vs) H0 (wipeS ρ1 vs) F (wipe σ vs) H ρi ∧ Free F (wipe σ vs) H ρi Da (.lst accV) ∧ Reps κ F H acc accV ∧ acc.length ≤ i ∧ i ≤ ds.length ∧ m = ds.length - i ∧ mLcLoop g mt me vs (ds.drop i) acc ρi = .ok accF ρE,
          ⟨_, F0, wipeS ρ1 vs, [], [], ew.laid hDa, Stp.laid hDa, ⟨upd_same, fun q => e0.trk Da q hDa, fun q => (ew.ownF q).2 hDa⟩, rfl, Nat.zero_le _, Nat.zero_le _, rfl, hR⟩, ?_⟩
        rintro i m H ⟨F, ρi, acc, accV, ei, T, fr, rps, hacc, hi, rfl, hL⟩
        have kk : Keeps F0 H0 H := T.keeps ew
        by_cases hlt : i < ds.length
        · refine .inr ⟨sp.go i H kk hlt, fun H' => ∃ F' ρi' acc' accV', EnvOk κ F' (wipe σ vs) H' ρi' ∧ Stp F0 (wipe σ vs) H0 (wipeS ρ1 vs) F' (wipe σ vs) H' ρi' ∧ Free F' (wipe σ vs) H' ρi' Da (.lst accV') ∧ Reps κ F' H' acc' accV' ∧ acc'.length ≤ i + 1 ∧ mLcLoop g mt me vs (ds.drop (i + 1)) acc' ρi' = .ok accF ρE, ?_, fun x H' y => ?_⟩
          · rintro H' ⟨F', ρi', acc', accV', q1, q2, q3, q4, q5, q6⟩
            exact ⟨ds.length - (i + 1), by omega, F', ρi', acc', accV', q1, q2, q3, q4, q5, hlt, rfl, q6⟩
          · have ed : ds[i]? = some ds[i] := by simp [hlt]
            obtain ⟨F2, gr, rp⟩ := sp.yld i ds[i] F H x H' kk T.f ei.trk ed y
            have e2 := gr.env ei
            rw [List.drop_eq_getElem_cons hlt] at hL
            unfold mLcLoop at hL
            cases hg : g ds[i] ρi with
            | none => simp only [hg] at hL; cases hL
            | some ρ2 =>
              simp only [hg] at hL
              refine ⟨F2, ρi, ds[i], e2, rp, ρ2, hg, fun σ2 off s3 e3 => ?_⟩
              have ew2 : wipe σ2 vs = wipe σ vs := by rw [off vs his, wipe_idem]
              refine ⟨ew2, F2, ρ2, e3, ?_⟩
              have T3 := (T.trans gr.stp).trans s3
              have fr3 := (fr.stp gr.stp).stp s3
              have rps3 := s3.reps e2 (gr.reps rps)
              have unp : ∀ j ∈ vs, ∀ sv, (wipeS ρ1 vs)[j]? = some sv → sv.isPar = false := fun j hj sv q => by rw [wipeS_in hj q]; rfl
              cases ht : mt ρ2 with
              | bad => simp only [ht] at hL; cases hL
              | rai x ρ3 => simp only [ht] at hL; cases hL
              | ok b ρ3 =>
                intro F4 H4 s4 e4
                have T4 := T3.trans s4
                have fr4 := fr3.stp s4
                have rps4 := s4.reps e3 rps3
                cases b with
                | false =>
                  simp only [ht] at hL
                  show if false = true then _ else _
                  rw [if_neg (by decide)]
                  refine ⟨F4, wipeS ρ3 vs, acc, accV, ?_, ?_, ?_, rps4, Nat.le_succ_of_le hacc, hL⟩
                  · rw [← ew2]; exact e4.wipe vs
                  · have := T4.wiped unp
                    rw [ew2] at this
                    exact this
                  · refine ⟨fr4.is, fr4.nf, fun q => fr4.no ?_⟩
                    rw [← ew2] at q
                    exact ownS_wipe q
                | true =>
                  simp only [ht] at hL
                  show if true = true then _ else _
                  rw [if_pos rfl]
                  refine ⟨F4, ρ3, e4, ?_⟩
                  cases hme : me ρ3 with
                  | bad => simp only [hme] at hL; cases hL
                  | rai x ρ4 => simp only [hme] at hL; cases hL
                  | ok r ρ4 =>
                    simp only [hme] at hL
                    intro F5 H5 s5 e5 y ry
                    cases hf : r.frz ρ4 with
                    | none => simp only [hf] at hL; cases hL
                    | some q =>
                      obtain ⟨dx, ρ5⟩ := q
                      simp only [hf] at hL
                      have fr5 := fr4.stp s5
                      have ny : y ≠ .ref Da := by
                        refine RRep.other e5 ry hf fr5.nf fr5.no ?_
                        rintro ⟨d, rfl, rfl⟩
                        obtain ⟨b, q1, _, _, q2, _⟩ := ry
                        cases q1
                        rw [fr4.is] at q2; cases q2
                      obtain ⟨F6, s6, e6, rp6, k1, k2, k3⟩ := freeze s5 e5 ry hf
                      have fr6 : Free F6 σ2 H5 ρ5 Da (.lst accV) := ⟨fr5.is, fun q => (k2 Da q).elim fr5.nf ny, fun q => fr5.no (k3 Da q).1⟩
                      have T6 := T4.trans s6
                      have rps6 := s6.reps e4 rps4
                      refine ⟨accV, fr5.is, by rw [rps.length]; omega, F6, wipeS ρ5 vs, acc ++ [dx], accV ++ [y], ?_, ?_, ?_, ?_, by rw [List.length_append, List.length_singleton]; omega, hL⟩
                      · rw [← ew2]; exact (e6.updFree fr6).wipe vs
                      · have := (T6.updNew (u := .lst (accV ++ [y])) hDa).wiped unp
                        rw [ew2] at this
                        exact this
                      · refine ⟨upd_same, fr6.nf, fun q => fr6.no ?_⟩
                        rw [← ew2] at q
                        exact ownS_wipe q
                      · refine Reps.mono (fun _ q => q) (fun b u fb hb => ?_) _ _ (rps6.append (.one rp6))
                        rw [upd_ne ?_]
                        · exact hb
                        · rintro rfl; exact fr6.nf fb
        · have hi : i = ds.length := by omega
          subst hi
          rw [List.drop_length] at hL
          cases hL
          obtain ⟨So, eo, oo⟩ := blk_out e0 T ei no
          refine .inl ⟨sp.stop H kk, p1 F H (s0.trans So) eo _ ⟨Da, rfl, fr.nf, fun q => fr.no (oo Da q), s0.early Da hDa, accV, fr.is, rps⟩⟩
    · rw [if_neg hz] at p1; exact p1.elim
  · rw [if_neg no] at p1; exact p1.elim
theorem PTs.imp {ifs : List Expr} {t t' : TT} (h : PTs X ifs t) (k : ∀ σ H Q, t' σ H Q → t σ H Q) : PTs X ifs t' := ⟨fun pins s σ H Q I q => h.run pins s σ H Q I (k _ _ _ q)⟩
theorem sts_nil : PTs X [] (tT κ W mYes) := PTs.imp pts_nil fun σ H Q ⟨F, ρ, en, p⟩ => p F H .refl en
theorem sts_one {c : Expr} (h : PT X c (tT κ W mt)) : PTs X [c] (tT κ W mt) := pts_one h
theorem s_lc {elt tg iter : Expr} {ifs : List Expr} {scope : Scope} {own : List (Str × Nat)} {pos : Pos} (hc : X.calm = true) (hN : X.N.Nodup) (hi : PI X tg iter (tI κ W mi)) (ok : BlkOk X.N X.env.scope scope own) (his : ∀ i ∈ is, i ∈ own.map (·.2))
    (hg : ∀ (s : Shared) (H : Hp) (C : Addr) (cl : List (Str × Addr)) (fp : List Addr), PG (X.blk s H scope (compEnvC scope cl C X.env) fp) tg (tG κ is g)) (ht : ∀ (s : Shared) (H : Hp) (C : Addr) (cl : List (Str × Addr)) (fp : List Addr), PTs (X.blk s H scope (compEnvC scope cl C X.env) fp) ifs (tT κ noW mt))
    (he : ∀ (s : Shared) (H : Hp) (C : Addr) (cl : List (Str × Addr)) (fp : List Addr), PE (X.blk s H scope (compEnvC scope cl C X.env) fp) elt (tE κ noW me)) (hs : ∀ x, foldedSetIterable iter X.env x = pure x) :
    PE X (.ListComp elt [⟨tg, iter, ifs, 0⟩] scope pos) (tE κ W (mLc mi g mt me (own.map (·.2)))) := PE.imp (pe_lc hc hN hi ok hg ht he hs) fun σ H Q h => lc_post his h
theorem ss_setLc {i : Nat} {y : Str} {py : Pos} {elt tg iter : Expr} {ifs : List Expr} {scope : Scope} {own : List (Str × Nat)} {pos spos : Pos} (hc : X.calm = true) (hN : X.N.Nodup) (hy : X.N[i]? = some y) (hyl : X.env.scope.names.lookup y = some .local)
    (hsw : swapsWith (.ListComp elt [⟨tg, iter, ifs, 0⟩] scope pos) (some (.Name y py)) spos.line X.env = pure true) (hi : PI X tg iter (tI κ W mi)) (ok : BlkOk X.N X.env.scope scope own) (his : ∀ i ∈ is, i ∈ own.map (·.2))
    (hg : ∀ (s : Shared) (H : Hp) (C : Addr) (cl : List (Str × Addr)) (fp : List Addr), PG (X.blk s H scope (compEnvC scope cl C X.env) fp) tg (tG κ is g)) (ht : ∀ (s : Shared) (H : Hp) (C : Addr) (cl : List (Str × Addr)) (fp : List Addr), PTs (X.blk s H scope (compEnvC scope cl C X.env) fp) ifs (tT κ noW mt))
    (he : ∀ (s : Shared) (H : Hp) (C : Addr) (cl : List (Str × Addr)) (fp : List Addr), PE (X.blk s H scope (compEnvC scope cl C X.env) fp) elt (tE κ noW me)) (hs : ∀ x, foldedSetIterable iter X.env x = pure x) :
    PS X (.Assign [.Name y py] (.ListComp elt [⟨tg, iter, ifs, 0⟩] scope pos) spos) (tS κ W (mAsg i (mLc mi g mt me (own.map (·.2))))) :=
  PS.imp (ps_setLc hc hN hy hyl hsw hi ok hg ht he hs) fun D σ H h => by
    obtain ⟨F, ρ, en, p⟩ := h
    have q := asg_post ⟨F, ρ, en, p⟩
    exact lc_post his q
end
end JM

namespace JM
open PySem PySem.Spec L2

/-! ### what a def does, as a function of its arguments -/
/-- an argument in the callee's slot -/
def argSV (ρ : Slots) : RV → Option SV
  | .pu d => some (.pu d)
  | .fr d => some (.ob true false d)
  | .nm i => match ρ[i]? with
    | some (.pu d) => some (.pu d)
    | some (.pf d) => some (.pu d)
    | some (.ob _ false d) => some (.ob true false d)
    | _ => none
def argSVs (ρ : Slots) : List RV → Option (List SV)
  | [] => some []
  | r :: rs => match argSV ρ r with
    | some sv => match argSVs ρ rs with
      | some svs => some (sv :: svs)
      | none => none
    | none => none
def nms : List RV → List Nat
  | [] => []
  | .nm i :: rs => i :: nms rs
  | _ :: rs => nms rs
/-- where the slot i was handed on -/
def nmAt (i : Nat) : List RV → Option Nat
  | [] => none
  | .nm k :: rs => if k = i then some 0 else (nmAt i rs).map (· + 1)
  | .pu _ :: rs => (nmAt i rs).map (· + 1)
  | .fr _ :: rs => (nmAt i rs).map (· + 1)
/-- a slot of the caller behind the call -/
def backSV (rs : List RV) (os : List SV) (i : Nat) : SV → SV
  | .ob p l d => match nmAt i rs with
    | some j => match os[j]? with
      | some (.ob _ _ d') => .ob p l d'
      | some (.pf d') => if p then .pf d' else .pu d'
      | _ => .un
    | none => .ob p l d
  | sv => sv
def backFrom (rs : List RV) (os : List SV) : Nat → Slots → Slots
  | _, [] => []
  | k, sv :: ρ => backSV rs os k sv :: backFrom rs os (k + 1) ρ
def back (ρ : Slots) (rs : List RV) (os : List SV) : Slots := backFrom rs os 0 ρ
/-- what the call hands back, for the caller -/
def retV (rs : List RV) (outs : List SV) : RV → Option RV
  | .pu d => some (.pu d)
  | .fr d => some (.fr d)
  | .nm j => match rs[j]? with
    | some (.nm i) => some (.nm i)
    | some (.pu d) => some (.pu d)
    | some (.fr _) => match outs[j]? with
      | some (.ob _ _ d) => some (.fr d)
      | some (.pf d) => some (.pu d)
      | _ => none
    | none => none
def mCall (f : List SV → FRes) (ms : MA) : ME := fun ρ => (ms ρ).bind fun rs ρ1 => if (nms rs).Nodup then (match argSVs ρ1 rs with
  | some svs => match f svs with
    | .ret r outs => match retV rs outs r with
      | some r' => .ok r' (back ρ1 rs outs)
      | none => .bad
    | .rai x outs => .rai x (back ρ1 rs outs)
    | .bad => .bad
  | none => .bad) else .bad
section
variable (κ : Nat → Addr)
/-- the promise of a def: it does what f says -/
def spO (f : List SV → FRes) : Sp := fun vs H Q E => ∃ F svs, EnvOk κ F (vs.map some) H svs ∧ match f svs with
  | .ret r outs => ∀ v F' H', Stp F (vs.map some) H svs F' (vs.map some) H' outs → EnvOk κ F' (vs.map some) H' outs → RRep κ F' (vs.map some) H H' outs v r → Q v H'
  | .rai x outs => ∀ c o F' H', Stp F (vs.map some) H svs F' (vs.map some) H' outs → EnvOk κ F' (vs.map some) H' outs → XRep κ F' H' x c o → E c o H'
  | .bad => False
end
section
variable {κ : Nat → Addr} {W : WX} {F F0 F1 F2 F' : Addr → Prop} {σ σ' σ1 σ₀ : L2.St} {H H0 H1 H2 H' H₀ : Hp} {ρ ρ0 ρ1 ρ2 : Slots}
theorem argSVs_get : ∀ {rs : List RV} {svs : List SV}, argSVs ρ rs = some svs → rs.length = svs.length ∧ ∀ (i : Nat) (sv : SV), svs[i]? = some sv → ∃ r, rs[i]? = some r ∧ argSV ρ r = some sv
  | [], svs, h => by
    cases h
    exact ⟨rfl, fun i sv e => by simp at e⟩
  | r :: rs, svs, h => by
    unfold argSVs at h
    cases e : argSV ρ r with
    | none => rw [e] at h; cases h
    | some sv =>
      rw [e] at h
      cases e2 : argSVs ρ rs with
      | none => simp only [e2] at h; cases h
      | some svs' =>
        simp only [e2] at h
        cases h
        obtain ⟨h1, h2⟩ := argSVs_get e2
        refine ⟨by simp [h1], fun i sv' q => ?_⟩
        cases i with
        | zero => simp at q; subst q; exact ⟨r, rfl, e⟩
        | succ i => obtain ⟨r', q1, q2⟩ := h2 i sv' (by simpa using q); exact ⟨r', by simpa using q1, q2⟩
theorem nms_get : ∀ {rs : List RV}, (nms rs).Nodup → ∀ (i j k : Nat), rs[i]? = some (.nm k) → rs[j]? = some (.nm k) → i = j
  | [], _, i, j, k, h, _ => by simp at h
  | r :: rs, nd, i, j, k, h1, h2 => by
    have mem : ∀ {l : List RV} {m : Nat}, l[m]? = some (.nm k) → k ∈ nms l := by
      intro l
      induction l with
      | nil => intro m h; simp at h
      | cons r l ih =>
        intro m h
        cases m with
        | zero => simp at h; subst h; exact List.mem_cons_self
        | succ m =>
          have := ih (m := m) (by simpa using h)
          cases r <;> first | exact this | exact List.mem_cons_of_mem _ this
    have ndt : (nms rs).Nodup := by
      cases r <;> first | exact nd | exact (List.nodup_cons.mp nd).2
    cases i with
    | zero =>
      cases j with
      | zero => rfl
      | succ j =>
        simp at h1; subst h1
        exact absurd (mem (l := rs) (m := j) (by simpa using h2)) (List.nodup_cons.mp nd).1
    | succ i =>
      cases j with
      | zero =>
        simp at h2; subst h2
        exact absurd (mem (l := rs) (m := i) (by simpa using h1)) (List.nodup_cons.mp nd).1
      | succ j => rw [nms_get ndt i j k (by simpa using h1) (by simpa using h2)]
/-- who owns an object in the callee: a new one, or a slot's -/
theorem own_arg {rs : List RV} {vs : List V} {svs : List SV} {a : Addr} (ha : argSVs ρ1 rs = some svs) (hr : RReps κ F1 σ H H1 ρ1 rs vs) (h : OwnS (vs.map some) svs a) :
    FrAs rs vs a ∨ ∃ (j i : Nat) (p : Bool) (d : D), rs[j]? = some (.nm i) ∧ ρ1[i]? = some (.ob p false d) ∧ σ[i]? = some (some (.ref a)) ∧ svs[j]? = some (.ob true false d) := by
  obtain ⟨j, p, l, d, h1, h2⟩ := h
  obtain ⟨r, q1, q2⟩ := (argSVs_get ha).2 j _ h1
  obtain ⟨v, q3, q4⟩ := hr.get q1
  rw [List.getElem?_map, q3] at h2
  have h2 : v = .ref a := Option.some.inj (Option.some.inj h2)
  subst h2
  cases r with
  | pu d' => cases q2
  | fr d' => exact .inl ⟨j, d', q1, q3⟩
  | nm i =>
    refine .inr ?_
    have q2 : (match ρ1[i]? with
    | some (.pu d) => some (SV.pu d)
    | some (.pf d) => some (.pu d)
    | some (.ob _ false d) => some (.ob true false d)
    | _ => none) = some (.ob p l d) := q2
    cases e : ρ1[i]? with
    | none => rw [e] at q2; cases q2
    | some sv =>
      rw [e] at q2
      cases sv with
      | un => cases q2
      | pu d => cases q2
      | pf d => cases q2
      | ob p' l' d' =>
        cases l' with
        | true => cases q2
        | false =>
          cases q2
          exact ⟨j, i, p', d, q1, e, q4, h1⟩
/-- the callee's slots -/
theorem call_env {rs : List RV} {vs : List V} {svs : List SV} (nd : (nms rs).Nodup) (ha : argSVs ρ1 rs = some svs) (e1 : EnvOk κ F1 σ H1 ρ1) (hr : RReps κ F1 σ H H1 ρ1 rs vs) : EnvOk κ F1 (vs.map some) H1 svs := by
  obtain ⟨hl, hg⟩ := argSVs_get ha
  refine ⟨by rw [List.length_map, hr.length, hl], e1.trk, fun i sv h => ?_, ?_⟩
  · obtain ⟨r, q1, q2⟩ := hg i sv h
    obtain ⟨v, q3, q4⟩ := hr.get q1
    refine ⟨some v, by rw [List.getElem?_map, q3]; rfl, ?_⟩
    cases r with
    | pu d => cases q2; exact ⟨v, rfl, q4⟩
    | fr d => cases q2; obtain ⟨a, k1, k2, k3, k4, k5⟩ := q4; exact ⟨a, by rw [k1], k2, k5⟩
    | nm k =>
      have q2 : (match ρ1[k]? with
      | some (.pu d) => some (SV.pu d)
      | some (.pf d) => some (.pu d)
      | some (.ob _ false d) => some (.ob true false d)
      | _ => none) = some sv := q2
      cases e : ρ1[k]? with
      | none => rw [e] at q2; cases q2
      | some s' =>
        rw [e] at q2
        obtain ⟨w, k1, k2⟩ := e1.sl k _ e
        have q4 : σ[k]? = some (some v) := q4
        rw [q4] at k1; cases k1
        cases s' with
        | un => cases q2
        | pu d => cases q2; exact k2
        | pf d => cases q2; exact k2
        | ob p' l' d' =>
          cases l' with
          | true => cases q2
          | false => cases q2; exact k2
  · intro i j p l d p' l' d' a h1 h2 h3 h4
    have key : ∀ {i : Nat} {p l : Bool} {d : D}, svs[i]? = some (.ob p l d) → (vs.map some)[i]? = some (some (V.ref a)) → (∃ d', rs[i]? = some (.fr d') ∧ vs[i]? = some (.ref a)) ∨ ∃ (k : Nat) (q : Bool) (d' : D), rs[i]? = some (.nm k) ∧ ρ1[k]? = some (.ob q false d') ∧ σ[k]? = some (some (.ref a)) := by
      intro i p l d h1 h3
      obtain ⟨r, q1, q2⟩ := hg i _ h1
      obtain ⟨v, q3, q4⟩ := hr.get q1
      rw [List.getElem?_map, q3] at h3
      have h3 : v = .ref a := Option.some.inj (Option.some.inj h3)
      subst h3
      cases r with
      | pu d' => cases q2
      | fr d' => exact .inl ⟨d', q1, q3⟩
      | nm k =>
        have q2 : (match ρ1[k]? with
        | some (.pu d) => some (SV.pu d)
        | some (.pf d) => some (.pu d)
        | some (.ob _ false d) => some (.ob true false d)
        | _ => none) = some (.ob p l d) := q2
        cases e : ρ1[k]? with
        | none => rw [e] at q2; cases q2
        | some s' =>
          rw [e] at q2
          cases s' with
          | un => cases q2
          | pu d => cases q2
          | pf d => cases q2
          | ob p' l' d' =>
            cases l' with
            | true => cases q2
            | false => exact .inr ⟨k, p', d', q1, e, q4⟩
    have frne : ∀ {rs : List RV} {vs : List V}, RReps κ F1 σ H H1 ρ1 rs vs → ∀ (i j : Nat) (d d' : D), rs[i]? = some (.fr d) → vs[i]? = some (.ref a) → rs[j]? = some (.fr d') → vs[j]? = some (.ref a) → i = j := by
      intro rs
      induction rs with
      | nil => intro vs _ i j d d' z; simp at z
      | cons r rs ih =>
        rintro vs ⟨v, ws, rfl, q1, q2, q3⟩ i j d d' z1 z2 z3 z4
        cases i with
        | zero =>
          cases j with
          | zero => rfl
          | succ j =>
            simp at z1 z2
            exact absurd ⟨j, d', by simpa using z3, by simpa using z4⟩ (q3 a ⟨d, z1, z2⟩)
        | succ i =>
          cases j with
          | zero =>
            simp at z3 z4
            exact absurd ⟨i, d, by simpa using z1, by simpa using z2⟩ (q3 a ⟨d', z3, z4⟩)
          | succ j => rw [ih q2 i j d d' (by simpa using z1) (by simpa using z2) (by simpa using z3) (by simpa using z4)]
    rcases key h1 h3 with ⟨d1, a1, a2⟩ | ⟨k1, p1, d1, a1, a2, a3⟩
    · rcases key h2 h4 with ⟨d2, b1, b2⟩ | ⟨k2, p2, d2, b1, b2, b3⟩
      · exact frne hr i j d1 d2 a1 a2 b1 b2
      · exact absurd ⟨k2, p2, false, d2, b2, b3⟩ (hr.frs ⟨i, d1, a1, a2⟩).2.2.1
    · rcases key h2 h4 with ⟨d2, b1, b2⟩ | ⟨k2, p2, d2, b1, b2, b3⟩
      · exact absurd ⟨k1, p1, false, d1, a2, a3⟩ (hr.frs ⟨j, d2, b1, b2⟩).2.2.1
      · have := e1.one k1 k2 _ _ _ _ _ _ a a2 b2 a3 b3
        subst this
        exact nms_get nd i j k1 a1 b1
theorem backFrom_get {rs : List RV} {os : List SV} : ∀ {ρ : Slots} {k i : Nat}, (backFrom rs os k ρ)[i]? = (ρ[i]?).map (backSV rs os (k + i))
  | [], k, i => by simp [backFrom]
  | sv :: ρ, k, 0 => by simp [backFrom]
  | sv :: ρ, k, i + 1 => by
    have := backFrom_get (rs := rs) (os := os) (ρ := ρ) (k := k + 1) (i := i)
    rw [show k + 1 + i = k + (i + 1) by omega] at this
    simpa [backFrom] using this
theorem back_get {rs : List RV} {os : List SV} {i : Nat} : (back ρ rs os)[i]? = (ρ[i]?).map (backSV rs os i) := by
  unfold back
  rw [backFrom_get, Nat.zero_add]
theorem backFrom_length {rs : List RV} {os : List SV} : ∀ {ρ : Slots} {k : Nat}, (backFrom rs os k ρ).length = ρ.length
  | [], _ => rfl
  | sv :: ρ, k => by
    unfold backFrom
    rw [List.length_cons, List.length_cons, backFrom_length]
theorem nmAt_some {i : Nat} : ∀ {rs : List RV} {j : Nat}, nmAt i rs = some j → rs[j]? = some (RV.nm i)
  | [], j, h => by cases h
  | .nm k :: rs, j, h => by
    unfold nmAt at h
    by_cases hk : k = i
    · rw [if_pos hk] at h; cases h; subst hk; rfl
    · rw [if_neg hk] at h
      cases e : nmAt i rs with
      | none => rw [e] at h; cases h
      | some m => rw [e] at h; cases h; simpa using nmAt_some e
  | .pu _ :: rs, j, h => by
    unfold nmAt at h
    cases e : nmAt i rs with
    | none => rw [e] at h; cases h
    | some m => rw [e] at h; cases h; simpa using nmAt_some e
  | .fr _ :: rs, j, h => by
    unfold nmAt at h
    cases e : nmAt i rs with
    | none => rw [e] at h; cases h
    | some m => rw [e] at h; cases h; simpa using nmAt_some e
theorem nmAt_none {i : Nat} : ∀ {rs : List RV}, nmAt i rs = none → ∀ j : Nat, rs[j]? ≠ some (RV.nm i)
  | [], h, j => by simp
  | r :: rs, h, j => by
    have tl : nmAt i rs = none := by
      cases r with
      | nm k =>
        unfold nmAt at h
        by_cases hk : k = i
        · rw [if_pos hk] at h; cases h
        · rw [if_neg hk] at h; simpa using h
      | pu d => unfold nmAt at h; simpa using h
      | fr d => unfold nmAt at h; simpa using h
    cases j with
    | zero =>
      intro q
      simp at q; subst q
      unfold nmAt at h
      rw [if_pos rfl] at h; cases h
    | succ j => simpa using nmAt_none tl j
/-- behind a call that came back -/
theorem call_back {rs : List RV} {vs : List V} {svs outs : List SV} (nd : (nms rs).Nodup) (ha : argSVs ρ1 rs = some svs) (s1 : Stp F σ H ρ F1 σ H1 ρ1) (e1 : EnvOk κ F1 σ H1 ρ1) (hr : RReps κ F1 σ H H1 ρ1 rs vs)
    (s : Stp F1 (vs.map some) H1 svs F' (vs.map some) H' outs) (e : EnvOk κ F' (vs.map some) H' outs) :
    Stp F σ H ρ F' σ H' (back ρ1 rs outs) ∧ EnvOk κ F' σ H' (back ρ1 rs outs) ∧ (∀ a, OwnS σ (back ρ1 rs outs) a → OwnS σ ρ1 a) ∧ (∀ d v, Rep κ F1 H1 d v → Rep κ F' H' d v) := by
  have ec := call_env nd ha e1 hr
  obtain ⟨hl, hg⟩ := argSVs_get ha
  have ow : ∀ a, OwnS (vs.map some) svs a → H a = none ∨ OwnS σ ρ1 a := fun a q => by
    rcases own_arg ha hr q with q | ⟨j, i, p, d, _, q2, q3, _⟩
    · exact .inl (hr.frs q).1
    · exact .inr ⟨i, p, false, d, q2, q3⟩
  have obs : ∀ (i : Nat) (p l : Bool) (d : D), (back ρ1 rs outs)[i]? = some (.ob p l d) → ∃ d0, ρ1[i]? = some (.ob p l d0) := by
    intro i p l d q
    rw [back_get] at q
    cases e0 : ρ1[i]? with
    | none => rw [e0] at q; cases q
    | some sv =>
      rw [e0] at q
      have q : backSV rs outs i sv = .ob p l d := Option.some.inj q
      cases sv with
      | un => cases q
      | pu d => cases q
      | pf d => cases q
      | ob p' l' d' =>
        unfold backSV at q
        cases e2 : nmAt i rs with
        | none => simp only [e2] at q; cases q; exact ⟨_, rfl⟩
        | some j =>
          simp only [e2] at q
          cases e3 : outs[j]? with
          | none => simp only [e3] at q; cases q
          | some o =>
            simp only [e3] at q
            cases o with
            | un => cases q
            | pu _ => cases q
            | pf d2 => cases p' <;> cases q
            | ob _ _ d2 => cases q; exact ⟨_, rfl⟩
  have own : ∀ a, OwnS σ (back ρ1 rs outs) a → OwnS σ ρ1 a := fun a ⟨i, p, l, d, q1, q2⟩ => by
    obtain ⟨d0, q3⟩ := obs i p l d q1
    exact ⟨i, p, l, d0, q3, q2⟩
  have fz : ∀ a u, F1 a → H1 a = some u → H' a = some u := fun a u fa hu => s.h a u hu fun q => (ec.ownF q).1 fa
  -- a slot that was handed on
  have touched : ∀ {i j : Nat} {p l : Bool} {d : D}, ρ1[i]? = some (.ob p l d) → nmAt i rs = some j → ∃ a o, σ[i]? = some (some (.ref a)) ∧ (vs.map some)[j]? = some (some (.ref a)) ∧ l = false ∧ svs[j]? = some (.ob true false d) ∧ outs[j]? = some o ∧ o.isPar = true := by
    intro i j p l d q1 q2
    have q3 := nmAt_some q2
    obtain ⟨v, q4, q5⟩ := hr.get q3
    have q5 : σ[i]? = some (some v) := q5
    obtain ⟨w, k1, a, rfl, k2, k3⟩ := e1.sl i _ q1
    rw [q5] at k1; cases k1
    have jl : j < svs.length := by rw [← hl]; exact (List.getElem?_eq_some_iff.mp q3).1
    obtain ⟨r, z1, z2⟩ := hg j _ (List.getElem?_eq_getElem jl)
    rw [q3] at z1; cases z1
    have z2 : (match ρ1[i]? with
      | some (.pu d) => some (SV.pu d)
      | some (.pf d) => some (.pu d)
      | some (.ob _ false d) => some (.ob true false d)
      | _ => none) = some svs[j] := z2
    rw [q1] at z2
    cases l with
    | true => cases z2
    | false =>
      have z3 : svs[j]? = some (.ob true false d) := by rw [List.getElem?_eq_getElem jl, ← z2]
      obtain ⟨⟨o, y1, y2⟩, _⟩ := s.par j _ z3 rfl
      exact ⟨a, o, q5, by rw [List.getElem?_map, q4]; rfl, rfl, z3, y1, y2⟩
  refine ⟨⟨fun a q => s.f a (s1.f a q), fun a q => ?_, fun a q => s1.o a (own a q), fun a u hu no => ?_, fun a q => s.t a (s1.t a q), fun i sv q pq => ?_⟩, ⟨by unfold back; rw [backFrom_length]; exact e1.len, e.trk, fun i sv q => ?_, fun i j p l d p' l' d' a q1 q2 q3 q4 => ?_⟩, own, fun d v => Rep.mono s.f fz d v⟩
  · rcases s.n a q with q | q | q
    · exact s1.n a q
    · rcases ow a q with q | q
      · exact .inr (.inr q)
      · exact (s1.o a q).elim (fun z => .inr (.inl z)) fun z => .inr (.inr z)
    · exact .inr (.inr (s1.none_of q))
  · have h1 := s1.h a u hu no
    refine s.h a u h1 fun q => ?_
    rcases ow a q with q | q
    · rw [hu] at q; cases q
    · rcases s1.o a q with q | q
      · exact no q
      · rw [hu] at q; cases q
  · obtain ⟨⟨sv1, q1, p1⟩, q2⟩ := s1.par i sv q pq
    refine ⟨⟨backSV rs outs i sv1, by rw [back_get, q1]; rfl, ?_⟩, q2⟩
    cases sv1 with
    | un => cases p1
    | pu _ => cases p1
    | pf _ => rfl
    | ob p l d =>
      have hp : p = true := by cases p <;> first | rfl | cases p1
      subst hp
      unfold backSV
      cases e2 : nmAt i rs with
      | none => rfl
      | some j =>
        obtain ⟨a, o, _, _, _, _, y1, y2⟩ := touched q1 e2
        simp only [y1]
        cases o with
        | un => cases y2
        | pu _ => cases y2
        | pf _ => rfl
        | ob _ _ _ => rfl
  · rw [back_get] at q
    cases e0 : ρ1[i]? with
    | none => rw [e0] at q; cases q
    | some sv1 =>
      rw [e0] at q
      have q : backSV rs outs i sv1 = sv := Option.some.inj q
      obtain ⟨w, k1, k2⟩ := e1.sl i _ e0
      cases sv1 with
      | un => cases q; exact ⟨w, k1, True.intro⟩
      | pu d => cases q; obtain ⟨v, rfl, k3⟩ := k2; exact ⟨_, k1, v, rfl, Rep.mono s.f fz d v k3⟩
      | pf d => cases q; obtain ⟨v, rfl, k3⟩ := k2; exact ⟨_, k1, v, rfl, Rep.mono s.f fz d v k3⟩
      | ob p l d =>
        unfold backSV at q
        cases e2 : nmAt i rs with
        | none =>
          simp only [e2] at q; cases q
          obtain ⟨a, rfl, k3, k4⟩ := k2
          have noc : ¬ OwnS (vs.map some) svs a := fun z => by
            rcases own_arg ha hr z with z | ⟨j, i', p', d', z1, z2, z3, _⟩
            · exact (hr.frs z).2.2.1 ⟨i, p, l, d, e0, k1⟩
            · have := e1.one i i' _ _ _ _ _ _ a e0 z2 k1 z3
              subst this
              exact nmAt_none e2 j z1
          refine ⟨_, k1, a, rfl, fun z => ?_, Own.mono s.f fz (fun u hu => s.h a u hu noc) k4⟩
          rcases s.n a z with z | z | z
          · exact k3 z
          · exact noc z
          · obtain ⟨u, hu⟩ := k4.some
            rw [hu] at z; cases z
        | some j =>
          obtain ⟨a, o, y1, y2, _, _, y3, y4⟩ := touched e0 e2
          simp only [e2, y3] at q
          obtain ⟨w', x1, x2⟩ := e.sl j _ y3
          rw [y2] at x1; cases x1
          cases o with
          | un => cases y4
          | pu _ => cases y4
          | pf d2 =>
            obtain ⟨v, x3, x4⟩ := x2
            cases x3
            cases p with
            | true => cases q; exact ⟨_, y1, _, rfl, x4⟩
            | false => cases q; exact ⟨_, y1, _, rfl, x4⟩
          | ob _ _ d2 =>
            cases q
            exact ⟨_, y1, x2⟩
  · obtain ⟨d0, z1⟩ := obs i p l d q1
    obtain ⟨d1, z2⟩ := obs j p' l' d' q2
    exact e1.one i j _ _ _ _ _ _ a z1 z2 q3 q4
theorem call_post {f : List SV → FRes} {ms : MA} {Q : VK} (h : tE κ W (mCall f ms) σ H Q) : tA κ W ms σ H fun vs H1 => spO κ f vs H1 Q (WE W σ) := by
  obtain ⟨F, ρ, en, p⟩ := h
  refine ⟨F, ρ, en, p.bindO fun rs F1 H1 ρ1 _ s1 e1 p1 vs hr => ?_⟩
  by_cases nd : (nms rs).Nodup
  · rw [if_pos nd] at p1
    cases ha : argSVs ρ1 rs with
    | none => rw [ha] at p1; exact p1.elim
    | some svs =>
      rw [ha] at p1
      refine ⟨F1, svs, call_env nd ha e1 hr, ?_⟩
      cases hf : f svs with
      | bad => simp only [hf] at p1; exact p1.elim
      | rai x outs =>
        simp only [hf] at p1
        intro c o F' H' s e xr
        obtain ⟨s2, e2, _, _⟩ := call_back nd ha s1 e1 hr s e
        exact p1 c o F' H' s2 e2 xr
      | ret r outs =>
        simp only [hf] at p1
        intro v F' H' s e rv
        obtain ⟨s2, e2, own, rep⟩ := call_back nd ha s1 e1 hr s e
        cases hq : retV rs outs r with
        | none => simp only [hq] at p1; exact p1.elim
        | some r' =>
          simp only [hq] at p1
          refine p1 F' H' s2 e2 v ?_
          cases r with
          | pu d => cases hq; exact rv
          | fr d =>
            cases hq
            obtain ⟨a, k1, k2, k3, k4, k5⟩ := rv
            exact ⟨a, k1, k2, fun z => (e1.ownF (own a z)).2 k4, s1.early a k4, k5⟩
          | nm j =>
            have rv : (vs.map some)[j]? = some (some v) := rv
            cases hj : rs[j]? with
            | none => simp only [retV, hj] at hq; cases hq
            | some r0 =>
              obtain ⟨v0, z1, z2⟩ := hr.get hj
              rw [List.getElem?_map, z1] at rv
              have : v0 = v := Option.some.inj (Option.some.inj rv)
              subst this
              cases r0 with
              | nm i => simp only [retV, hj] at hq; cases hq; exact z2
              | pu d => simp only [retV, hj] at hq; cases hq; exact rep d _ z2
              | fr d =>
                cases ho : outs[j]? with
                | none => simp only [retV, hj, ho] at hq; cases hq
                | some o =>
                  obtain ⟨w, x1, x2⟩ := e.sl j o ho
                  rw [List.getElem?_map, z1] at x1
                  have x1 : w = some v0 := (Option.some.inj x1).symm
                  subst x1
                  obtain ⟨a, k1, k2, k3, k4, k5⟩ := z2
                  cases o with
                  | un => simp only [retV, hj, ho] at hq; cases hq
                  | pu d' => simp only [retV, hj, ho] at hq; cases hq
                  | pf d' => simp only [retV, hj, ho] at hq; cases hq; obtain ⟨v', y1, y2⟩ := x2; cases y1; exact y2
                  | ob p l d' =>
                    simp only [retV, hj, ho] at hq; cases hq
                    obtain ⟨b, y1, y2, y3⟩ := x2
                    cases y1
                    cases k1
                    exact ⟨_, rfl, y2, fun z => k3 (own _ z), k4, y3⟩
  · rw [if_neg nd] at p1; exact p1.elim
end
end JM

namespace JM
open PySem PySem.Spec L2
open PyProof.Rows (envOfC AllBare IntsAre)

/-! ### promises of defs, where no guard is open (repr asks that) -/
structure FnG (P : Program) (w : World) (K : PySem.W.Frag) (mg : Str → Option Value) (base : Heap) (k : Nat) (f : Addr) (fd : FuncData) (ps : List Str) (sp : Sp) : Prop where
  len : ∀ vs H Q E, sp vs H Q E → vs.length = ps.length
  run : ∀ (A : Around) (outer : List Env) (s : Shared) (H : Hp) (args : Args) (us : List Value) (vs : List V) (Q : VK) (E : XK), Room k A → A.guards = some [] → Env0 P w K mg base A outer s H → BindsTo s fd args (ps.zip us) → Vals vs us →
    sp vs H Q E → codeAny (model P w) A (.call (.ref f) args) (CR (L2.CX P w) outer P w H s Q E) s
theorem FnG.mono {P : Program} {w : World} {K : PySem.W.Frag} {mg : Str → Option Value} {base : Heap} {j k : Nat} {f : Addr} {fd : FuncData} {ps : List Str} {sp : Sp} (F : FnG P w K mg base j f fd ps sp) (h : j ≤ k) : FnG P w K mg base k f fd ps sp :=
  ⟨F.len, fun A o s H args us vs Q E hr => F.run A o s H args us vs Q E (hr.mono h)⟩
section
variable {X : Cx} {k : Nat} {f : Addr} {fd : FuncData} {ps : List Str} {sp : Sp} {E : L2.St → XK} {x : Str} {p pos : Pos} {e : Expr} {es : List Expr} {t : TA}
theorem runG {pins : List (Addr × Obj)} {σ : L2.St} {H : Hp} {s : Shared} {Q : VK} {us : List Value} {vs : List V} (F : FnG X.prog X.w X.K X.mg X.base k f fd ps sp) (hr : Room k X.A) (hgd : X.A.guards = some []) (hb : Binds X.K fd ps []) (hx : PassesAt (L2.CX X.prog X.w) X σ (E σ))
    (I : Inv X pins σ H s) (r : Vals vs us) (q : sp vs H Q (E σ)) : wpAny (model X.prog X.w) X.A (call (.ref f) us) (EP X pins σ Q) X.xe s := by
  have lu : us.length = ps.length := r.length.symm.trans (F.len _ _ _ _ q)
  have bnd := hb s us I.kIn ((List.append_nil us).symm ▸ lu)
  rw [List.append_nil] at bnd
  apply wpAny_call
  apply codeAny_mono (F.run X.A X.stack s H ⟨us, []⟩ us vs Q (E σ) hr hgd I.env0 bnd r q)
  rintro (er | fl) s' z
  · exact hx pins H s er s' I z
  · cases fl with
    | ret u => exact I.after z
    | next => exact z.elim
    | brk => exact z.elim
    | cont => exact z.elim
theorem pe_callG (F : FnG X.prog X.w X.K X.mg X.base k f fd ps sp) (hr : Room k X.A) (hgd : X.A.guards = some []) (hg : Gl X x) (hm : X.mg x = some (.ref f)) (hk : PySem.W.keepIn X.K (.ref f) = true) (hb : Binds X.K fd ps []) (hx : ∀ σ, PassesAt (L2.CX X.prog X.w) X σ (E σ))
    (ha : PA X (e :: es) t) (hdb : (x == ("__debug__" : Str)) = false) (he : starEach (e :: es) X.env = (false, eval e X.env) :: starEach es X.env) (hpl : (backTo pos (starEach es X.env)).any (·.1) = false) :
    PE X (.Call (.Name x p) (e :: es) [] pos) (tCallS sp E t) := by
  constructor
  intro pins s σ H Q I h
  apply wpAny_Call_Name_kw
  apply ld_glob I hg hm _ hdb
  refine PySem.W.callWith_K (h₀ := X.base) I.ok.mod.kin hk (thn (ha.run pos pins s σ H _ I h) ?_) he hpl
  rintro us s1 ⟨vs, H1, I1, r, q⟩
  exact ⟨I1.kIn, runG F hr hgd hb (hx σ) I1 r q⟩
theorem pe_callG0 (F : FnG X.prog X.w X.K X.mg X.base k f fd ps sp) (hr : Room k X.A) (hgd : X.A.guards = some []) (hg : Gl X x) (hm : X.mg x = some (.ref f)) (hk : PySem.W.keepIn X.K (.ref f) = true) (hb : Binds X.K fd ps []) (hx : ∀ σ, PassesAt (L2.CX X.prog X.w) X σ (E σ))
    (hdb : (x == ("__debug__" : Str)) = false) : PE X (.Call (.Name x p) [] [] pos) (tCallS sp E tNil) := by
  constructor
  intro pins s σ H Q I h
  apply wpAny_Call_Name_kw
  apply ld_glob I hg hm _ hdb
  exact PySem.W.callWith_K0 I.kIn hk (runG (us := []) F hr hgd hb (hx σ) I .nil h)
end

/-- a def's body: np parameters, n names -/
def okArg : SV → Bool
  | .pu _ => true
  | .ob p l _ => p && !l
  | _ => false
def outsFrom (ρ : Slots) : Nat → List SV → List SV
  | _, [] => []
  | k, a :: as => (if a.isPar then (ρ[k]?).getD a else a) :: outsFrom ρ (k + 1) as
def retF (svs : List SV) (ρ : Slots) : RV → Option RV
  | .pu d => some (.pu d)
  | .fr d => some (.fr d)
  | .nm i => match ρ[i]? with
    | some (.pu d) => some (.pu d)
    | some (.pf d) => some (.pu d)
    | some (.ob false _ d) => some (.fr d)
    | some (.ob true _ _) => match svs[i]? with
      | some sv => if sv.isPar then some (.nm i) else none
      | none => none
    | _ => none
def runF (np n : Nat) (b : MS) (svs : List SV) : FRes := if svs.length = np then (if svs.all okArg = true then (match b (svs ++ List.replicate (n - np) .un) with
  | .nx ρ => .ret (.pu .non) (outsFrom ρ 0 svs)
  | .rt r ρ => match retF svs ρ r with
    | some r' => .ret r' (outsFrom ρ 0 svs)
    | none => .bad
  | .rai x ρ => .rai x (outsFrom ρ 0 svs)
  | _ => .bad) else .bad) else .bad
section
variable {κ : Nat → Addr} {F F' : Addr → Prop} {σ σ' : L2.St} {H H' : Hp} {ρ ρ' : Slots}
theorem outsFrom_get {ρ : Slots} : ∀ {svs : List SV} {k i : Nat}, (outsFrom ρ k svs)[i]? = (svs[i]?).map fun a => if a.isPar then (ρ[k + i]?).getD a else a
  | [], k, i => by simp [outsFrom]
  | a :: as, k, 0 => by simp [outsFrom]
  | a :: as, k, i + 1 => by
    have := outsFrom_get (ρ := ρ) (svs := as) (k := k + 1) (i := i)
    rw [show k + 1 + i = k + (i + 1) by omega] at this
    simpa [outsFrom] using this
theorem outsFrom_length {ρ : Slots} : ∀ {svs : List SV} {k : Nat}, (outsFrom ρ k svs).length = svs.length
  | [], _ => rfl
  | a :: as, k => by
    unfold outsFrom
    rw [List.length_cons, List.length_cons, outsFrom_length]
theorem ext_get {svs : List SV} {n i : Nat} {sv : SV} (h : (svs ++ List.replicate n SV.un)[i]? = some sv) : svs[i]? = some sv ∨ sv = .un := by
  by_cases hi : i < svs.length
  · rw [List.getElem?_append_left hi] at h; exact .inl h
  · rw [List.getElem?_append_right (by omega), List.getElem?_replicate] at h
    split at h
    · cases h; exact .inr rfl
    · cases h
theorem start_get {N : List Str} {vs : List V} {i : Nat} {v : V} (h : vs[i]? = some v) : (start N vs)[i]? = some (some v) := by
  have hi := (List.getElem?_eq_some_iff.mp h).1
  unfold L2.start
  rw [List.getElem?_append_left (by simpa using hi), List.getElem?_map, h]; rfl
theorem map_get {vs : List V} {i : Nat} {o : Option V} (h : (vs.map some)[i]? = some o) : ∃ v, o = some v ∧ vs[i]? = some v := by
  rw [List.getElem?_map] at h
  cases e : vs[i]? with
  | none => rw [e] at h; cases h
  | some v => rw [e] at h; cases h; exact ⟨v, rfl, rfl⟩
theorem fn_env {N : List Str} {vs : List V} {svs : List SV} (hN : vs.length ≤ N.length) (e : EnvOk κ F (vs.map some) H svs) : EnvOk κ F (start N vs) H (svs ++ List.replicate (N.length - vs.length) .un) := by
  have hl : svs.length = vs.length := by have := e.len; rwa [List.length_map] at this
  have st : ∀ {i : Nat} {sv : SV}, svs[i]? = some sv → ∃ v, vs[i]? = some v ∧ SlOk κ F H (some v) sv := fun {i sv} q => by
    obtain ⟨o, q1, q2⟩ := e.sl i sv q
    obtain ⟨v, rfl, q3⟩ := map_get q1
    exact ⟨v, q3, q2⟩
  refine ⟨by unfold L2.start; simp [hl], e.trk, fun i sv h => ?_, fun i j p l d p' l' d' a h1 h2 h3 h4 => ?_⟩
  · rcases ext_get h with q | rfl
    · obtain ⟨v, q1, q2⟩ := st q
      exact ⟨_, start_get q1, q2⟩
    · have hi := (List.getElem?_eq_some_iff.mp h).1
      have hi' : i < (start N vs).length := by unfold L2.start; simpa [hl] using hi
      exact ⟨_, List.getElem?_eq_getElem hi', True.intro⟩
  · rcases ext_get h1 with q1 | q1
    · rcases ext_get h2 with q2 | q2
      · obtain ⟨v, z1, _⟩ := st q1
        obtain ⟨w, z2, _⟩ := st q2
        rw [start_get z1] at h3
        rw [start_get z2] at h4
        refine e.one i j _ _ _ _ _ _ a q1 q2 ?_ ?_
        · rw [List.getElem?_map, z1]; exact h3
        · rw [List.getElem?_map, z2]; exact h4
      · cases q2
    · cases q1
theorem fn_out {N : List Str} {vs : List V} {svs : List SV} {n : Nat} (e0 : EnvOk κ F (vs.map some) H svs) (ok : svs.all okArg = true) (s : Stp F (start N vs) H (svs ++ List.replicate n .un) F' σ' H' ρ') (e : EnvOk κ F' σ' H' ρ') :
    Stp F (vs.map some) H svs F' (vs.map some) H' (outsFrom ρ' 0 svs) ∧ EnvOk κ F' (vs.map some) H' (outsFrom ρ' 0 svs) ∧ (∀ a, OwnS (vs.map some) (outsFrom ρ' 0 svs) a → ∃ (i : Nat) (p l : Bool) (d : D) (sv : SV), ρ'[i]? = some (.ob p l d) ∧ σ'[i]? = some (some (.ref a)) ∧ svs[i]? = some sv ∧ sv.isPar = true) ∧
      (∀ a, OwnS (start N vs) (svs ++ List.replicate n .un) a → OwnS (vs.map some) svs a) := by
  have vget : ∀ {i : Nat} {sv : SV}, svs[i]? = some sv → ∃ v, vs[i]? = some v := fun {i sv} q => by
    obtain ⟨o, q1, q2⟩ := e0.sl i sv q
    obtain ⟨v, rfl, q3⟩ := map_get q1
    exact ⟨v, q3⟩
  have par : ∀ {i : Nat} {sv : SV}, svs[i]? = some sv → sv.isPar = true → ∃ sv' v, ρ'[i]? = some sv' ∧ sv'.isPar = true ∧ vs[i]? = some v ∧ σ'[i]? = some (some v) := fun {i sv} q hp => by
    have hi := (List.getElem?_eq_some_iff.mp q).1
    obtain ⟨⟨sv', q1, q2⟩, q3⟩ := s.par i sv (by rw [List.getElem?_append_left hi]; exact q) hp
    obtain ⟨v, q4⟩ := vget q
    exact ⟨sv', v, q1, q2, q4, by rw [q3, start_get q4]⟩
  have get : ∀ {i : Nat} {o : SV}, (outsFrom ρ' 0 svs)[i]? = some o → ∃ sv, svs[i]? = some sv ∧ ((sv.isPar = false ∧ o = sv) ∨ (sv.isPar = true ∧ ρ'[i]? = some o)) := fun {i o} q => by
    rw [outsFrom_get, Nat.zero_add] at q
    cases z : svs[i]? with
    | none => rw [z] at q; cases q
    | some sv =>
      rw [z] at q
      have q : (if sv.isPar then (ρ'[i]?).getD sv else sv) = o := Option.some.inj q
      refine ⟨sv, rfl, ?_⟩
      cases hp : sv.isPar with
      | false => rw [hp] at q; exact .inl ⟨rfl, q.symm⟩
      | true =>
        rw [hp] at q
        obtain ⟨sv', v, q1, _⟩ := par z hp
        rw [q1] at q
        have q : sv' = o := q
        rw [← q]
        exact .inr ⟨rfl, q1⟩
  have own : ∀ a, OwnS (vs.map some) (outsFrom ρ' 0 svs) a → ∃ (i : Nat) (p l : Bool) (d : D) (sv : SV), ρ'[i]? = some (.ob p l d) ∧ σ'[i]? = some (some (.ref a)) ∧ svs[i]? = some sv ∧ sv.isPar = true := fun a ⟨i, p, l, d, q1, q2⟩ => by
    obtain ⟨sv, z1, z2⟩ := get q1
    have hp : sv.isPar = true := by
      rcases z2 with ⟨z2, z3⟩ | ⟨z2, _⟩
      · subst z3
        have := List.all_eq_true.mp ok _ (List.mem_of_getElem? z1)
        cases p <;> first | (cases z2; done) | (cases l <;> cases this)
      · exact z2
    obtain ⟨sv', v, y1, y2, y3, y4⟩ := par z1 hp
    rcases z2 with ⟨z2, _⟩ | ⟨_, z3⟩
    · rw [hp] at z2; cases z2
    · obtain ⟨v', w1, w2⟩ := map_get q2
      cases w1
      rw [w2] at y3; cases y3
      exact ⟨i, p, l, d, sv, z3, y4, z1, hp⟩
  have own0 : ∀ a, OwnS (start N vs) (svs ++ List.replicate n .un) a → OwnS (vs.map some) svs a := fun a ⟨i, p, l, d, q1, q2⟩ => by
    rcases ext_get q1 with q1 | q1
    · obtain ⟨v, q3⟩ := vget q1
      rw [start_get q3] at q2
      exact ⟨i, p, l, d, q1, by rw [List.getElem?_map, q3]; exact q2⟩
    · cases q1
  have fz : ∀ a u, F a → H a = some u → H' a = some u := fun a u fa hu => s.h a u hu fun q => (e0.ownF (own0 a q)).1 fa
  refine ⟨⟨s.f, fun a q => (s.n a q).imp id fun z => z.imp (own0 a) id, fun a q => ?_, fun a u hu no => s.h a u hu fun q => no (own0 a q), s.t, fun i sv q hp => ?_⟩, ⟨?_, e.trk, fun i o q => ?_, fun i j p l d p' l' d' a q1 q2 q3 q4 => ?_⟩, own, own0⟩
  · obtain ⟨i, p, l, d, sv, z1, z2, _, _⟩ := own a q
    exact (s.o a ⟨i, p, l, d, z1, z2⟩).imp (own0 a) id
  · obtain ⟨sv', v, y1, y2, y3, y4⟩ := par q hp
    refine ⟨⟨sv', ?_, y2⟩, rfl⟩
    rw [outsFrom_get, q, Nat.zero_add]
    show some (if sv.isPar then (ρ'[i]?).getD sv else sv) = _
    rw [hp, y1]; rfl
  · rw [outsFrom_length, e0.len]
  · obtain ⟨sv, z1, z2⟩ := get q
    rcases z2 with ⟨z2, rfl⟩ | ⟨z2, z3⟩
    · obtain ⟨w, k1, k2⟩ := e0.sl i _ z1
      refine ⟨w, k1, ?_⟩
      have oka := List.all_eq_true.mp ok _ (List.mem_of_getElem? z1)
      cases o with
      | un => trivial
      | pu d => obtain ⟨v, rfl, y⟩ := k2; exact ⟨v, rfl, Rep.mono s.f fz _ _ y⟩
      | pf d => cases z2
      | ob p l d => cases p <;> first | (cases z2; done) | (cases l <;> cases oka)
    · obtain ⟨sv', v, y1, y2, y3, y4⟩ := par z1 z2
      obtain ⟨w, k1, k2⟩ := e.sl i o z3
      rw [y4] at k1; cases k1
      exact ⟨some v, by rw [List.getElem?_map, y3]; rfl, k2⟩
  · have key : ∀ {i : Nat} {p l : Bool} {d : D}, (outsFrom ρ' 0 svs)[i]? = some (.ob p l d) → (vs.map some)[i]? = some (some (V.ref a)) → ρ'[i]? = some (.ob p l d) ∧ σ'[i]? = some (some (.ref a)) := by
      intro i p l d q1 q3
      obtain ⟨sv, z1, z2⟩ := get q1
      rcases z2 with ⟨z2, z3⟩ | ⟨z2, z3⟩
      · subst z3
        have oka := List.all_eq_true.mp ok _ (List.mem_of_getElem? z1)
        cases p <;> first | (cases z2; done) | (cases l <;> cases oka)
      · obtain ⟨sv', v, y1, y2, y3, y4⟩ := par z1 z2
        obtain ⟨v', w1, w2⟩ := map_get q3
        cases w1
        rw [w2] at y3; cases y3
        exact ⟨z3, y4⟩
    obtain ⟨a1, a2⟩ := key q1 q3
    obtain ⟨b1, b2⟩ := key q2 q4
    exact e.one i j _ _ _ _ _ _ a a1 b1 a2 b2
/-- the body's end is the call's end -/
theorem fn_post {N : List Str} {vs : List V} {svs : List SV} {np : Nat} {b : MS} {Q : VK} {E : XK} (hnp : vs.length = np) (hN : np ≤ N.length) (e0 : EnvOk κ F (vs.map some) H svs)
    (h : match runF np N.length b svs with
      | .ret r outs => ∀ v F' H', Stp F (vs.map some) H svs F' (vs.map some) H' outs → EnvOk κ F' (vs.map some) H' outs → RRep κ F' (vs.map some) H H' outs v r → Q v H'
      | .rai x outs => ∀ c o F' H', Stp F (vs.map some) H svs F' (vs.map some) H' outs → EnvOk κ F' (vs.map some) H' outs → XRep κ F' H' x c o → E c o H'
      | .bad => False) :
    tS κ (fun c o _ H => E c o H) b { nx := fun _ H' => Q .non H', rt := Q } (start N vs) H := by
  have hl : svs.length = vs.length := by have := e0.len; rwa [List.length_map] at this
  refine ⟨F, svs ++ List.replicate (N.length - vs.length) .un, fn_env (by omega) e0, ?_⟩
  unfold runF at h
  rw [if_pos (hl.trans hnp)] at h
  by_cases ok : svs.all okArg = true
  · rw [if_pos ok, ← hnp] at h
    cases hb : b (svs ++ List.replicate (N.length - vs.length) .un) with
    | bad => rw [hb] at h; exact h.elim
    | br ρ => rw [hb] at h; exact h.elim
    | ct ρ => rw [hb] at h; exact h.elim
    | nx ρ' =>
      rw [hb] at h
      intro F' σ' H' s e
      obtain ⟨s1, e1, _, _⟩ := fn_out e0 ok s e
      exact h .non F' H' s1 e1 rfl
    | rai x ρ' =>
      rw [hb] at h
      intro c o F' σ' H' s e xr
      obtain ⟨s1, e1, _, _⟩ := fn_out e0 ok s e
      exact h c o F' H' s1 e1 xr
    | rt r ρ' =>
      rw [hb] at h
      intro v F' σ' H' s e rv
      obtain ⟨s1, e1, own, own0⟩ := fn_out e0 ok s e
      have own' : ∀ a, OwnS (vs.map some) (outsFrom ρ' 0 svs) a → OwnS σ' ρ' a := fun a q => by
        obtain ⟨i, p, l, d, _, q1, q2, _⟩ := own a q
        exact ⟨i, p, l, d, q1, q2⟩
      cases hr : retF svs ρ' r with
      | none => simp [hr] at h
      | some r' =>
        simp only [hr] at h
        refine h v F' H' s1 e1 ?_
        cases r with
        | pu d => cases hr; exact rv
        | fr d =>
          cases hr
          obtain ⟨a, k1, k2, k3, k4, k5⟩ := rv
          exact ⟨a, k1, k2, fun q => k3 (own' a q), k4, k5⟩
        | nm i =>
          have rv : σ'[i]? = some (some v) := rv
          cases hi : ρ'[i]? with
          | none => simp only [retF, hi] at hr; cases hr
          | some sv =>
            obtain ⟨w, k1, k2⟩ := e.sl i sv hi
            rw [rv] at k1; cases k1
            cases sv with
            | un => simp only [retF, hi] at hr; cases hr
            | pu d => simp only [retF, hi] at hr; cases hr; obtain ⟨v', y1, y2⟩ := k2; cases y1; exact y2
            | pf d => simp only [retF, hi] at hr; cases hr; obtain ⟨v', y1, y2⟩ := k2; cases y1; exact y2
            | ob p l d =>
              obtain ⟨a, y1, y2, y3⟩ := k2
              cases y1
              cases p with
              | true =>
                cases hs : svs[i]? with
                | none => simp only [retF, hi, hs] at hr; cases hr
                | some sv0 =>
                  cases hp : sv0.isPar with
                  | false => simp [retF, hi, hs, hp] at hr
                  | true =>
                    simp [retF, hi, hs, hp] at hr
                    subst hr
                    have il := (List.getElem?_eq_some_iff.mp hs).1
                    obtain ⟨_, q3⟩ := s.par i sv0 (by rw [List.getElem?_append_left il]; exact hs) hp
                    obtain ⟨o, q1, _⟩ := e0.sl i sv0 hs
                    obtain ⟨v', rfl, q4⟩ := map_get q1
                    rw [rv, start_get q4] at q3
                    show (vs.map some)[i]? = _
                    rw [q1, ← Option.some.inj q3]
              | false =>
                simp only [retF, hi] at hr
                cases hr
                refine ⟨a, rfl, y2, fun q => ?_, ?_, y3⟩
                · obtain ⟨k, p', l', d', sv0, z1, z2, z3, z4⟩ := own a q
                  have := e.one i k _ _ _ _ _ _ a hi z1 rv z2
                  subst this
                  have il := (List.getElem?_eq_some_iff.mp z3).1
                  obtain ⟨⟨sv', w1, w2⟩, _⟩ := s.par i sv0 (by rw [List.getElem?_append_left il]; exact z3) z4
                  rw [hi] at w1; cases w1; cases w2
                · rcases s.o a ⟨i, false, l, d, hi, rv⟩ with q | q
                  · exfalso
                    obtain ⟨k, p', l', d', z1, z2⟩ := q
                    have hp : (SV.ob p' l' d').isPar = true := by
                      rcases ext_get z1 with z | z
                      · have := List.all_eq_true.mp ok _ (List.mem_of_getElem? z)
                        cases p' <;> first | rfl | (cases l' <;> cases this)
                      · cases z
                    obtain ⟨⟨sv', w1, w2⟩, w3⟩ := s.par k _ z1 hp
                    rw [z2] at w3
                    cases sv' with
                    | un => cases w2
                    | pu _ => cases w2
                    | pf d2 =>
                      obtain ⟨v2, x1, x2⟩ := e.sl k _ w1
                      rw [w3] at x1; cases x1
                      obtain ⟨v3, x3, x4⟩ := x2
                      cases x3
                      exact y2 (Rep.refF x4)
                    | ob p2 l2 d2 =>
                      have := e.one i k _ _ _ _ _ _ a hi w1 rv w3
                      subst this
                      rw [hi] at w1; cases w1; cases w2
                  · exact q
  · rw [if_neg ok] at h; exact h.elim
end

section
variable {P : Program} {w : World} {K : PySem.W.Frag} {mg : Str → Option Value} {base : Heap}
/-- a def of the text keeps its promise, by its body -/
theorem fnG_of {x qual : Str} {st : Stmt} {f : Addr} {fd : FuncData} {N ps : List Str} {k : Nat} {sp : Sp} (F : Fun K x qual st f fd) (S : FnScope N ps (defScope st)) (len : ∀ vs H Q E, sp vs H Q E → vs.length = ps.length)
    (hb : ∀ (cdv : Value) (A : Around) (outer : List Env) (s : Shared) (H : Hp) (vs : List V) (Q : VK) (E : XK), Room k (A.deeper (envOfC qual (defScope st) s.heap.objs.size f cdv)) → A.guards = some [] → sp vs H Q E →
      ∃ t, PSs (cxOf (L2.CX P w) P w K mg base N qual (defScope st) f cdv A outer s H E) (defBody st) t ∧ t { nx := fun _ H' => Q .non H', rt := Q } (start N vs) H) : FnG P w K mg base (k + 1) f fd ps sp := by
  obtain ⟨oc, od, kV, doc, pm, an, cdv, ct, osl, rfl, lk, hcd⟩ := F.ex
  constructor
  · exact len
  intro A outer s H args us vs Q E hr hgd e0 hbind r hsp
  have KX : K.In s.heap := e0.mod.kin.keeps fun b o q => (e0.bs b o q).1
  have lim : s.heap.NoLimit := e0.mod.nolimit.keeps fun b o q => (e0.bs b o q).1
  have kinds : ∀ y ∈ ps.zip us, (defScope st).names.lookup y.1 = some .local ∨ ((defScope st).names.lookup y.1 = some .cell ∧ ((cellsFrom (s.heap.objs.size + 1) (defScope st).names []).lookup y.1).isSome = true) := by
    rintro ⟨n, v⟩ hy
    rcases S.par n (List.of_mem_zip hy).1 with q | q
    · exact Or.inl q
    · exact Or.inr ⟨q, PySem.W.cellsFrom_some _ _ _ (Or.inl q)⟩
  apply codeAny_call_function hr.depth (KX _ _ lk) rfl S.co S.gen rfl (PySem.W.codeRec_of KX hcd)
  apply hbind
  apply wpAny_newFunctionEnv_cells S.kind kinds
  rintro env rfl s1 x
  refine ⟨lim.keeps x.toInCall.keep, codeAny_func ?_⟩
  obtain ⟨t, ht, hq⟩ := hb cdv A outer s H vs Q E (hr.deeper _) hgd hsp
  have I := inv_start (CX := L2.CX P w) (E := E) S hr.hd e0 (len _ _ _ _ hsp) r x
  apply wpAny_mono (ht.run [] s1 (start N vs) H _ I hq)
  · rintro (_ | u | _ | _) s' hs
    all_goals first
      | (obtain ⟨_, _, _, z⟩ := hs; exact z.elim)
      | skip
    · obtain ⟨σ', H', J, z⟩ := hs
      exact ⟨V.non, H', J.os, J.bare, J.base, J.hok, rfl, z⟩
    · obtain ⟨v, σ', H', J, rv, z⟩ := hs
      exact ⟨v, H', J.os, J.bare, J.base, J.hok, rv, z⟩
  · exact fun e s' z => z
/-- a def whose body is compiled to b -/
theorem fnO {κ : Nat → Addr} {x qual : Str} {st : Stmt} {f : Addr} {fd : FuncData} {N ps : List Str} {k np n : Nat} {b : MS} (F : Fun K x qual st f fd) (S : FnScope N ps (defScope st)) (hp : ps.length = np) (hn : N.length = n) (hpn : np ≤ n)
    (hb : ∀ (cdv : Value) (A : Around) (outer : List Env) (s : Shared) (H : Hp) (E : XK), Room k (A.deeper (envOfC qual (defScope st) s.heap.objs.size f cdv)) → A.guards = some [] →
      PSs (cxOf (L2.CX P w) P w K mg base N qual (defScope st) f cdv A outer s H E) (defBody st) (tS κ (fun c o _ H => E c o H) b)) : FnG P w K mg base (k + 1) f fd ps (spO κ (runF np n b)) := by
  have len : ∀ vs H Q E, spO κ (runF np n b) vs H Q E → vs.length = ps.length := by
    rintro vs H Q E ⟨F, svs, e, h⟩
    have hl : svs.length = vs.length := by have := e.len; rwa [List.length_map] at this
    by_cases z : svs.length = np
    · omega
    · unfold runF at h
      rw [if_neg z] at h
      exact h.elim
  refine fnG_of F S len fun cdv A outer s H vs Q E hr hg hsp => ⟨_, hb cdv A outer s H E hr hg, ?_⟩
  have hl := len _ _ _ _ hsp
  obtain ⟨F, svs, e, h⟩ := hsp
  subst hn
  exact fn_post (hl.trans hp) hpn e h
end

/-! ### the law's call -/
section
variable {P : Program} {w : World} {K : PySem.W.Frag} {mg mb : Str → Option Value}
theorem tracked {H : Hp} {s₁ : Shared} {fa a : Addr} {fd : FuncData} {x : Str} {k : Nat} {sp : Sp} {vs : List Value} (only : Only H) (hok : HOk P w H s₁.heap) (one : ∀ b, H b ≠ none → b = a) (off : H a ≠ none → K.lookup a = none)
    (KX : K.In s₁.heap) (hns : s₁.heap.Ns mainGlobals mg) (hb : s₁.heap.Ns builtinsNs mb) (hbb : ∀ x : Str, x ≠ "__name__" → mb x = bootBuiltins x) (hlim : s₁.heap.NoLimit) (hg : s₁.gens = #[])
    (ha : s₁.heap.get? a = some { cls := .type "list", data := .seq vs.toArray }) (hr : Room k callerA) (F : ∀ base : Heap, K.In base → base.Ns mainGlobals mg → FnG P w K mg base k fa fd [x] sp)
    (hbind : ∀ (s : Shared) (u : Value), BindsTo s fd ⟨[u], []⟩ [(x, u)]) (hsp : sp [.ref a] H (fun v _ => v = .bl true) fun _ _ _ => False) :
    codeAny (model P w) callerA (.call (.ref fa) ⟨[.ref a], []⟩) (fun r s' => r = .ok (.ret (.bool true)) ∧ OldK s₁.heap s'.heap ∧ s'.os = s₁.os ∧ AllBare s'.gens) s₁ := by
  -- a namespace is not the script
  have keepNs : ∀ {b : Addr} {m : Str → Option Value}, s₁.heap.Ns b m → (hidT s₁.heap H).Ns b m := by
    rintro b m ⟨o, es, ep, q, d, r⟩
    refine ⟨o, es, ep, hidT_get q ?_, d, r⟩
    cases z : H b with
    | none => rfl
    | some u =>
      obtain rfl := one b (by rw [z]; exact nofun)
      rw [ha] at q
      cases q
      exact (nomatch (show Data.seq vs.toArray _ = Data.dict es ep from d))
  have keepK : K.In (hidT s₁.heap H) := by
    intro b o q
    refine hidT_get (KX b o q) ?_
    cases z : H b with
    | none => rfl
    | some u =>
      obtain rfl := one b (by rw [z]; exact nofun)
      rw [off (by rw [z]; exact nofun)] at q
      cases q
  have limit : (hidT s₁.heap H).NoLimit := by
    obtain ⟨mc, z1, z2⟩ := hlim
    exact ⟨mc, keepNs z1, z2⟩
  have e0 : Env0 P w K mg (hidT s₁.heap H) callerA [] s₁ H :=
    ⟨rfl, ⟨keepK, keepNs hns, ⟨mb, keepNs hb, hbb⟩, limit⟩, fun b o q => of_hidT q, Nat.le_of_eq (hidT_size _ _), trivial, (fun b z => nomatch z), hok, .of_eq hg⟩
  apply codeAny_mono ((F _ keepK (keepNs hns)).run callerA [] s₁ H ⟨[.ref a], []⟩ [.ref a] [.ref a] _ _ hr rfl e0 (hbind s₁ (.ref a)) (.cons rfl .nil) hsp)
  rintro (er | fl) s' h
  · obtain ⟨_, _, _, _, _, _, _, _, _, _, _, _, z⟩ := h
    exact z.elim
  · cases fl with
    | next => exact h.elim
    | brk => exact h.elim
    | cont => exact h.elim
    | ret u =>
      obtain ⟨v, H', os, bare, un, hok', rv, rfl⟩ := h
      have eu : u = Value.bool true := rv
      subst eu
      refine ⟨rfl, OldK.of_keep ?_, os, bare⟩
      intro b o q
      rcases only b with z | ⟨ob, xs, z⟩
      · exact un.keep b o q z (fun y => nomatch y) (fun y => nomatch y)
      · have y1 := (hok b _ z).1
        have y2 := (hok' b _ (un.frzs b ob _ z)).1
        rw [q] at y1
        cases y1
        exact y2
theorem law_callG {s₁ : Shared} {fa a : Addr} {fd : FuncData} {x : Str} {k : Nat} {sp : Sp} {vs : List Value} {ns : List Int}
    (KX : K.In s₁.heap) (hns : s₁.heap.Ns mainGlobals mg) (hb : s₁.heap.Ns builtinsNs mb) (hbb : ∀ x : Str, x ≠ "__name__" → mb x = bootBuiltins x) (hlim : s₁.heap.NoLimit) (hg : s₁.gens = #[])
    (ha : s₁.heap.get? a = some { cls := .type "list", data := .seq vs.toArray }) (hi : IntsAre vs ns) (hl : ns.length ≤ sizeLine) (hr : Room k callerA) (nk : K.lookup a = none) (F : ∀ base : Heap, K.In base → base.Ns mainGlobals mg → FnG P w K mg base k fa fd [x] sp)
    (hbind : ∀ (s : Shared) (u : Value), BindsTo s fd ⟨[u], []⟩ [(x, u)]) (hsp : ∀ H : Hp, (∀ b, H b ≠ none → b = a) → Rd H a (.lst (ns.map V.int)) → sp [.ref a] H (fun v _ => v = .bl true) fun _ _ _ => False) :
    codeAny (model P w) callerA (.call (.ref fa) ⟨[.ref a], []⟩) (fun r s' => r = .ok (.ret (.bool true)) ∧ OldK s₁.heap s'.heap ∧ s'.os = s₁.os ∧ AllBare s'.gens) s₁ := by
  have at_ : ∀ b u, (if b = a then some (HO.frz { cls := .type "list", data := .seq vs.toArray } (.lst (ns.map V.int))) else none) = some u → b = a ∧ u = HO.frz { cls := .type "list", data := .seq vs.toArray } (.lst (ns.map V.int)) := by
    intro b u q
    by_cases hb : b = a
    · rw [if_pos hb] at q; exact ⟨hb, (Option.some.inj q).symm⟩
    · rw [if_neg hb] at q; cases q
  have one : ∀ b, (if b = a then some (HO.frz { cls := .type "list", data := .seq vs.toArray } (.lst (ns.map V.int))) else none) ≠ none → b = a := by
    intro b q
    by_cases hb : b = a
    · exact hb
    · exact absurd (if_neg hb) q
  refine tracked (H := fun b => if b = a then some (.frz { cls := .type "list", data := .seq vs.toArray } (.lst (ns.map V.int))) else none) ?_ ?_ one (fun _ => nk) KX hns hb hbb hlim hg ha hr F hbind (hsp _ one (.inr ⟨_, if_pos rfl⟩))
  · intro b
    by_cases hb : b = a
    · exact .inr ⟨_, _, if_pos hb⟩
    · exact .inl (if_neg hb)
  · intro b u q
    obtain ⟨rfl, rfl⟩ := at_ b u q
    refine ⟨ha, ?_, vs, _, vals_ints hi, ha⟩
    rw [List.length_map]
    exact hl
end
end JM

namespace JM
open PySem PySem.Spec L2

/-! ### dict displays with written keys -/
def mDct (ks : List Key) (ms : MA) : ME := fun ρ => (ms ρ).bind fun rs ρ1 => match frzA ρ1 rs with
  | some (ds, ρ2) => .ok (.fr (.dct (ks.map keyD) ds)) ρ2
  | none => .bad
def mAll : List ME → MA
  | [] => mNil
  | m :: ms => mCons m (mAll ms)
section
variable {κ : Nat → Addr} {W : WX} {F F1 F2 : Addr → Prop} {σ : L2.St} {H H1 H2 H₀ : Hp} {ρ ρ1 ρ2 : Slots} {X : Cx} {pos : Pos}
theorem putK_new {k : Key} {v : V} {kvs : List (Key × V)} (h : ∀ p ∈ kvs, p.1 ≠ k) : putK kvs k v = kvs ++ [(k, v)] := by
  unfold putK
  rw [if_neg]
  intro q
  obtain ⟨p, hp, e⟩ := List.any_eq_true.mp q
  exact h p hp (of_decide_eq_true e)
theorem mergeK_new : ∀ {more kvs : List (Key × V)}, (more.map (·.1)).Nodup → (∀ p ∈ kvs, ∀ q ∈ more, p.1 ≠ q.1) → mergeK kvs more = kvs ++ more
  | [], kvs, _, _ => by simp [mergeK]
  | (k, v) :: more, kvs, nd, dj => by
    have nd' := List.nodup_cons.mp nd
    show mergeK (putK kvs k v) more = _
    rw [putK_new fun p hp => dj p hp _ List.mem_cons_self]
    rw [mergeK_new nd'.2 fun p hp q hq => ?_]
    · simp
    · rcases List.mem_append.mp hp with hp | hp
      · exact dj p hp q (List.mem_cons_of_mem _ hq)
      · rw [List.mem_singleton.mp hp]
        intro e
        have e : k = q.1 := e
        refine nd'.1 ?_
        exact List.mem_map.mpr ⟨q, hq, e.symm⟩
theorem pairs_all : ∀ {ks : List Key} {ms : List ME} {H : Hp} {R : List V → Hp → Prop}, ks.length = ms.length → tA κ W (mAll ms) σ H R →
    tPairs (List.zipWith (fun k m => (tC (kV k), tE κ W m)) ks ms) σ H fun ps H2 => ∃ vs, ps = List.zipWith (fun k v => (kV k, v)) ks vs ∧ vs.length = ks.length ∧ R vs H2
  | [], [], H, R, _, ⟨F, ρ, en, p⟩ => ⟨[], rfl, rfl, p F H .refl en [] rfl⟩
  | k :: ks, [], _, _, h, _ => by cases h
  | [], m :: ms, _, _, h, _ => by cases h
  | k :: ks, m :: ms, H, R, hl, ⟨F, ρ, en, p⟩ => by
    show tE κ W m σ H fun y H2 => tPairs (List.zipWith (fun k m => (tC (kV k), tE κ W m)) ks ms) σ H2 fun ps H3 => _
    refine ⟨F, ρ, en, p.bind fun r F1 H1 ρ1 s1 e1 p1 v rv => ?_⟩
    have q := pairs_all (ks := ks) (ms := ms) (H := H1) (R := fun vs H2 => R (v :: vs) H2) (by simpa using hl) ⟨F1, ρ1, e1, p1.bind fun rs F2 H2 ρ2 s2 e2 p2 vs rvs => p2 F2 H2 .refl e2 (v :: vs) (RReps.cons s2 e1 s1.early rv rvs)⟩
    have mono : ∀ {trs : List (TE × TE)} {H : Hp} {R R' : List (V × V) → Hp → Prop}, (∀ tr ∈ trs, ∃ (k : Key) (m : ME), tr = (tC (kV k), tE κ W m)) → (∀ ps H, R ps H → R' ps H) → tPairs trs σ H R → tPairs trs σ H R' := by
      intro trs
      induction trs with
      | nil => intro H R R' _ h q; exact h _ _ q
      | cons tr trs ih =>
        intro H R R' ht h q
        obtain ⟨k, m, rfl⟩ := ht tr List.mem_cons_self
        obtain ⟨F, ρ, en, p⟩ := (show tE κ W m σ H fun y H2 => tPairs trs σ H2 fun ps H3 => R ((kV k, y) :: ps) H3 from q)
        show tE κ W m σ H fun y H2 => tPairs trs σ H2 fun ps H3 => R' ((kV k, y) :: ps) H3
        exact ⟨F, ρ, en, p.mono fun r F' H' ρ' _ _ z v rv => ih (fun tr htr => ht tr (List.mem_cons_of_mem _ htr)) (fun ps H y => h _ _ y) (z v rv)⟩
    refine mono ?_ ?_ q
    · intro tr htr
      have : ∀ {ks : List Key} {ms : List ME}, tr ∈ List.zipWith (fun k m => (tC (kV k), tE κ W m)) ks ms → ∃ (k : Key) (m : ME), tr = (tC (kV k), tE κ W m) := by
        intro ks
        induction ks with
        | nil => intro ms h; simp at h
        | cons k ks ih =>
          intro ms h
          cases ms with
          | nil => simp at h
          | cons m ms =>
            simp at h
            rcases h with h | h
            · exact ⟨k, m, h⟩
            · exact ih h
      exact this htr
    · rintro ps H' ⟨vs, rfl, h1, h2⟩
      exact ⟨v :: vs, rfl, by simp [h1], h2⟩
theorem dct_post {ks : List Key} {ms : List ME} {Q : VK} (nd : ks.Nodup) (hl : ks.length = ms.length) (h15 : ks.length ≤ 15) (h : tE κ W (mDct ks (mAll ms)) σ H Q) : tDisp (List.zipWith (fun k m => (tC (kV k), tE κ W m)) ks ms) σ H Q := by
  obtain ⟨F, ρ, en, p⟩ := h
  intro pp hp
  have en1 := en.laid (o := .dK []) hp
  have s0 : Stp F σ H ρ F σ (upd H pp (.dK [])) ρ := Stp.laid hp
  have fr0 : Free F σ (upd H pp (.dK [])) ρ pp (.dK []) := ⟨upd_same, fun q => en.trk pp q hp, fun q => (en.ownF q).2 hp⟩
  have q : tA κ W (mAll ms) σ (upd H pp (.dK [])) fun vs H2 => H2 pp = some (.dK []) ∧ ∀ kvs : List (Key × V), kvs = ks.zip vs → vs.length = ks.length → Q (.ref pp) (upd H2 pp (.dK kvs)) := by
    have p' := Post.after s0 p
    refine ⟨F, ρ, en1, ?_⟩
    cases hm : mAll ms ρ with
    | bad => unfold mDct at p; rw [hm] at p; exact p.elim
    | rai x ρ1 => unfold mDct at p'; rw [hm] at p'; exact p'
    | ok rs ρ1 =>
      unfold mDct at p
      rw [hm] at p
      intro F1 H1 s1 e1 vs rvs
      have fr1 := fr0.stp s1
      have p : Post κ W F σ H ρ (match frzA ρ1 rs with
        | some (ds, ρ2) => .ok (.fr (.dct (ks.map keyD) ds)) ρ2
        | none => .bad : Res RV) fun r F' H' ρ' => ∀ v, RRep κ F' σ H H' ρ' v r → Q v H' := p
      refine ⟨fr1.is, fun kvs ek hlv => ?_⟩
      cases hz : frzA ρ1 rs with
      | none => rw [hz] at p; exact p.elim
      | some q =>
        obtain ⟨ds, ρ2⟩ := q
        rw [hz] at p
        have hz' := hz
        unfold frzA at hz
        cases hz2 : frzs true ρ1 rs with
        | none => rw [hz2] at hz; cases hz
        | some q =>
          obtain ⟨rs', ρ3⟩ := q
          rw [hz2] at hz
          cases hz3 : puD rs' with
          | none => simp only [hz3] at hz; cases hz
          | some ds' =>
            simp only [hz3] at hz
            cases hz
            obtain ⟨F2, s2, e2, q2, kp, _⟩ := frzs_ok s1 e1 rvs hz2
            have rp := q2.reps hz3
            have fr2 : Free F2 σ H1 ρ2 pp (.dK []) := ⟨fr1.is, fun z => by
              rcases kp.n pp z with z | z | z
              · exact fr1.nf z
              · have := (rvs.frs z).1
                rw [upd_same] at this; cases this
              · exact fr1.no z, fun z => fr1.no (kp.o pp z)⟩
            refine p F2 _ ((s0.trans s2).updNew hp) (e2.updFree fr2) (.ref pp) ⟨pp, rfl, fr2.nf, fr2.no, hp, vs, ?_, .inl ⟨kvs, upd_same, ?_, ?_⟩⟩
            · refine Reps.mono (fun _ z => z) (fun b u fb hb => ?_) _ _ rp
              rw [upd_ne ?_]
              · exact hb
              · rintro rfl; exact fr2.nf fb
            · subst ek
              have : ∀ {ks : List Key} {vs : List V}, vs.length = ks.length → ks.map keyD = (ks.zip vs).map fun p => keyD p.1 := by
                intro ks
                induction ks with
                | nil => intro vs _; rfl
                | cons k ks ih =>
                  intro vs h
                  cases vs with
                  | nil => cases h
                  | cons v vs => simp [← ih (by simpa using h)]
              exact this hlv
            · subst ek
              have : ∀ {ks : List Key} {vs : List V}, vs.length = ks.length → vs = (ks.zip vs).map (·.2) := by
                intro ks
                induction ks with
                | nil => intro vs h; simpa using h
                | cons k ks ih =>
                  intro vs h
                  cases vs with
                  | nil => cases h
                  | cons v vs => simp [← ih (by simpa using h)]
              exact this hlv
  have q2 := pairs_all (ks := ks) hl q
  have mono : ∀ {ks : List Key} {ms : List ME} {H : Hp} {R R' : List (V × V) → Hp → Prop}, (∀ ps H, R ps H → R' ps H) → tPairs (List.zipWith (fun k m => (tC (kV k), tE κ W m)) ks ms) σ H R → tPairs (List.zipWith (fun k m => (tC (kV k), tE κ W m)) ks ms) σ H R' := by
    intro ks
    induction ks with
    | nil => intro ms H R R' h q; exact h _ _ q
    | cons k ks ih =>
      intro ms H R R' h q
      cases ms with
      | nil => exact h _ _ q
      | cons m ms =>
        obtain ⟨F, ρ, en, p⟩ := (show tE κ W m σ H fun y H2 => tPairs (List.zipWith (fun k m => (tC (kV k), tE κ W m)) ks ms) σ H2 fun ps H3 => R ((kV k, y) :: ps) H3 from q)
        show tE κ W m σ H fun y H2 => tPairs (List.zipWith (fun k m => (tC (kV k), tE κ W m)) ks ms) σ H2 fun ps H3 => R' ((kV k, y) :: ps) H3
        exact ⟨F, ρ, en, p.mono fun r F' H' ρ' _ _ z v rv => ih (fun ps H y => h _ _ y) (z v rv)⟩
  refine mono ?_ q2
  rintro ps H' ⟨vs, rfl, h1, h2, h3⟩
  have ez : List.zipWith (fun k v => (kV k, v)) ks vs = (ks.zip vs).map fun kv => (kV kv.1, kv.2) := by
    rw [List.zip, List.map_zipWith]
  have el : (ks.zip vs).length ≤ 15 := by rw [List.length_zip]; omega
  have ek : (ks.zip vs).map (·.1) = ks := by
    rw [List.map_fst_zip]; omega
  refine ⟨h2, ks.zip vs, ez, el, ?_⟩
  rw [mergeK_new (by rw [ek]; exact nd) (fun p hp => by simp at hp)]
  exact h3 _ rfl h1
theorem s_dct0 : PE X (.Dict [] [] pos) (tE κ W (mDct [] mNil)) := by
  refine PE.imp pe_dnewK ?_
  rintro σ H Q ⟨F, ρ, en, p⟩ pp hp
  refine p F _ (Stp.laid hp) (en.laid hp) (.ref pp) ⟨pp, rfl, fun q => en.trk pp q hp, fun q => (en.ownF q).2 hp, hp, [], rfl, .inl ⟨[], upd_same, rfl, rfl⟩⟩
theorem s_dct {ks : List Key} {ms : List ME} {keys : List (Option Expr)} {values : List Expr} (h : PPs X pos keys values (List.zipWith (fun k m => (tC (kV k), tE κ W m)) ks ms)) (nd : ks.Nodup) (hl : ks.length = ms.length) (hk : keys.length = ks.length)
    (hall : keys.all (·.isSome) = true) (hv : keys.length = values.length) (h0 : keys ≠ []) (h15 : ks.length ≤ 15) : PE X (.Dict keys values pos) (tE κ W (mDct ks (mAll ms))) :=
  PE.imp (pe_disp h hall hv h0 (by rw [hk]; exact h15)) fun σ H Q q => dct_post nd hl h15 q
end
end JM

namespace JM
open PySem PySem.Spec L2

/-! ### from the program's text to the mirrors -/
/-- what a global name means: the def number i; a number; a text; a built-in -/
inductive GV where
  | fn (i : Nat) | int (i : Int) | str (x : Str) | blt
structure Cc where
  N : List Str
  names : List (Str × NameKind)
def ixOf (x : Str) : List Str → Option Nat
  | [] => none
  | y :: ys => if y = x then some 0 else (ixOf x ys).map (· + 1)
theorem ixOf_get {x : Str} : ∀ {ys : List Str} {i : Nat}, ixOf x ys = some i → ys[i]? = some x
  | [], i, h => by cases h
  | y :: ys, i, h => by
    unfold ixOf at h
    by_cases e : y = x
    · rw [if_pos e] at h; cases h; rw [e]; rfl
    · rw [if_neg e] at h
      cases q : ixOf x ys with
      | none => rw [q] at h; cases h
      | some j => rw [q] at h; cases h; simpa using ixOf_get q
theorem ixOf_none {x : Str} : ∀ {ys : List Str}, ixOf x ys = none → x ∉ ys
  | [], _ => by simp
  | y :: ys, h => by
    unfold ixOf at h
    by_cases e : y = x
    · rw [if_pos e] at h; cases h
    · rw [if_neg e] at h
      have q : ixOf x ys = none := by simpa using h
      simp only [List.mem_cons, not_or]
      exact ⟨fun z => e z.symm, ixOf_none q⟩
def visK : Option NameKind → Bool
  | some .local => true
  | some .cell => true
  | some .free => true
  | _ => false
def locK : Option NameKind → Bool
  | some .local => true
  | some .cell => true
  | _ => false
def okName (x : Str) : Bool := !decide (x = "__debug__") && !decide (x = "__classdict__") && !decide (x = "__name__")
/-- a name to read; a name to store -/
def seeIx (c : Cc) (x : Str) : Option Nat := if visK (c.names.lookup x) && okName x then ixOf x c.N else none
def putIx (c : Cc) (x : Str) : Option Nat := if locK (c.names.lookup x) then ixOf x c.N else none
def gvOf (G : List (Str × GV)) (c : Cc) (x : Str) : Option GV := if decide (c.names.lookup x = some .globalImplicit) && okName x then G.lookup x else none

def plainE : Expr → Bool
  | .Starred _ _ => false
  | _ => true
def plainIx : Expr → Bool
  | .Slice _ _ none _ => false
  | _ => true
theorem starEach_plain {e : Expr} {es : List Expr} {env : Env} (h : plainE e = true) : starEach (e :: es) env = (false, eval e env) :: starEach es env := by
  cases e <;> first | rfl | cases h
theorem backTo_plain {pos : Pos} {env : Env} : ∀ {es : List Expr}, es.all plainE = true → (backTo pos (starEach es env)).any (·.1) = false
  | [], _ => rfl
  | e :: es, h => by
    rw [List.all_cons, Bool.and_eq_true] at h
    rw [starEach_plain h.1]
    show (false || (backTo pos (starEach es env)).any (·.1)) = false
    rw [backTo_plain h.2]; rfl
theorem backTo_few {pos : Pos} {env : Env} : ∀ {es : List Expr}, es.all plainE = true → (backTo pos (starEach es env)).all (fun x => !x.1) = true
  | [], _ => rfl
  | e :: es, h => by
    rw [List.all_cons, Bool.and_eq_true] at h
    rw [starEach_plain h.1]
    show (true && (backTo pos (starEach es env)).all (fun x => !x.1)) = true
    rw [backTo_few h.2]; rfl
theorem plainIx_ok {b : Expr} (h : plainIx b = true) : PlainIx b := by
  intro o i
  cases b with
  | Slice lo hi st p => cases st with
    | none => cases h
    | some s => rfl
  | _ => rfl
theorem folded_plain {e : Expr} {env : Env} (h : (match e with
    | .Set _ _ _ => false
    | _ => true) = true) : ∀ x, foldedSetIterable e env x = pure x := by
  intro x
  cases e <;> first | rfl | cases h
theorem behind_plain {op : CmpOp} {e : Expr} (h : (match e with
    | .Set _ _ _ => false
    | _ => true) = true) : behindInMarks op e = false := by
  cases e <;> first | rfl | cases h

/-! operators -/
def gGt (d e : D) : Op := gLt e d
def gGe (d e : D) : Op := gLe e d
def binG : Operator → Option (D → D → Op)
  | .Add => some gAdd
  | .Sub => some gSub
  | .Mult => some gMulA
  | .FloorDiv => some gDiv
  | .Mod => some gMod
  | .Pow => some gPow
  | _ => none
def cmpG : CmpOp → Option (D → D → Op)
  | .Eq => some (gEq false)
  | .NotEq => some (gEq true)
  | .Lt => some gLt
  | .LtE => some gLe
  | .Gt => some gGt
  | .GtE => some gGe
  | .Is => some (gIs false)
  | .IsNot => some (gIs true)
  | .In => some (gIn false)
  | .NotIn => some (gIn true)
theorem binG_ok {κ : Nat → Addr} {X : Cx} {op : Operator} {g : D → D → Op} (h : binG op = some g) : OpR X (binaryOp op) (r2 κ g) := by
  cases op <;> cases h
  · exact d_add
  · exact d_sub
  · exact d_mul
  · exact d_mod
  · exact d_pow
  · exact d_div
theorem cmpG_ok {κ : Nat → Addr} {X : Cx} (hu : X.A.units + 64 < cLine) {op : CmpOp} {g : D → D → Op} (h : cmpG op = some g) : OpR X (compareOp op) (r2 κ g) := by
  cases op <;> cases h
  · exact d_eq hu false
  · exact d_eq hu true
  · exact d_lt hu
  · exact d_le hu
  · exact d_gt hu
  · exact d_ge hu
  · exact d_is
  · exact d_isnot
  · exact d_in hu false
  · exact d_in hu true
/-- a built-in function (true) or type, what it does -/
def biOf (x : Str) : Option (Bool × String × (List D → Op)) :=
  if x = "len" then some (true, "len", un gLen) else
  if x = "abs" then some (true, "abs", un gAbs) else
  if x = "int" then some (false, "int", un gInt) else
  if x = "max" then some (true, "max", gMax) else
  if x = "min" then some (true, "min", gMin) else
  if x = "list" then some (false, "list", un gList) else
  if x = "tuple" then some (false, "tuple", un gTuple) else
  if x = "sum" then some (true, "sum", gSum) else
  if x = "all" then some (true, "all", gAll) else
  if x = "repr" then some (true, "repr", un gRepr) else
  if x = "str" then some (false, "str", un gStr) else none
def bfOf (b : Bool) (id : String) : Value := if b then .builtin id else .type id
theorem biOf_ok {κ : Nat → Addr} {X : Cx} (hc : X.calm = true) (hu : X.A.units + 64 < cLine) (hg : X.A.guards = some []) {x : Str} {b : Bool} {id : String} {g : List D → Op} (h : biOf x = some (b, id, g)) :
    bootBuiltins x = some (bfOf b id) ∧ CallR X (bfOf b id) (rN κ g) := by
  unfold biOf at h
  by_cases e : x = "len"
  · rw [if_pos e] at h; cases h; subst e; exact ⟨by show bootBuiltins _ = some _; decide +kernel, c_len⟩
  rw [if_neg e] at h; clear e
  by_cases e : x = "abs"
  · rw [if_pos e] at h; cases h; subst e; exact ⟨by show bootBuiltins _ = some _; decide +kernel, c_abs⟩
  rw [if_neg e] at h; clear e
  by_cases e : x = "int"
  · rw [if_pos e] at h; cases h; subst e; exact ⟨by show bootBuiltins _ = some _; decide +kernel, c_int⟩
  rw [if_neg e] at h; clear e
  by_cases e : x = "max"
  · rw [if_pos e] at h; cases h; subst e; exact ⟨by show bootBuiltins _ = some _; decide +kernel, c_max hc⟩
  rw [if_neg e] at h; clear e
  by_cases e : x = "min"
  · rw [if_pos e] at h; cases h; subst e; exact ⟨by show bootBuiltins _ = some _; decide +kernel, c_min hc⟩
  rw [if_neg e] at h; clear e
  by_cases e : x = "list"
  · rw [if_pos e] at h; cases h; subst e; exact ⟨by show bootBuiltins _ = some _; decide +kernel, c_list⟩
  rw [if_neg e] at h; clear e
  by_cases e : x = "tuple"
  · rw [if_pos e] at h; cases h; subst e; exact ⟨by show bootBuiltins _ = some _; decide +kernel, c_tuple⟩
  rw [if_neg e] at h; clear e
  by_cases e : x = "sum"
  · rw [if_pos e] at h; cases h; subst e; exact ⟨by show bootBuiltins _ = some _; decide +kernel, c_sum hc⟩
  rw [if_neg e] at h; clear e
  by_cases e : x = "all"
  · rw [if_pos e] at h; cases h; subst e; exact ⟨by show bootBuiltins _ = some _; decide +kernel, c_all hc⟩
  rw [if_neg e] at h; clear e
  by_cases e : x = "repr"
  · rw [if_pos e] at h; cases h; subst e; exact ⟨by show bootBuiltins _ = some _; decide +kernel, c_repr hu hg⟩
  rw [if_neg e] at h; clear e
  by_cases e : x = "str"
  · rw [if_pos e] at h; cases h; subst e; exact ⟨by show bootBuiltins _ = some _; decide +kernel, c_str⟩
  rw [if_neg e] at h; clear e
  cases h
def tyOf (x : Str) : Option String :=
  if x = "int" then some "int" else if x = "bool" then some "bool" else if x = "str" then some "str" else if x = "list" then some "list" else if x = "tuple" then some "tuple" else if x = "dict" then some "dict" else none
theorem tyOf_ok {x : Str} {T : String} (h : tyOf x = some T) : bootBuiltins x = some (.type T) := by
  unfold tyOf at h
  repeat' split at h
  all_goals first
    | (cases h; done)
    | (rename_i e; subst e; cases h; decide +kernel)
end JM

namespace JM
open PySem PySem.Spec L2

def mMtS (g : D → List D → Op) (a : ME) (as : MA) : ME := fun ρ => (a ρ).bind fun r ρ1 => match r with
  | .pu (.str z) => (as ρ1).bind fun rs ρ2 => match conts ρ2 rs with
    | some ds => opRes (g (.str z) ds) ρ2
    | none => .bad
  | _ => .bad
structure CF where
  e : Cc → Expr → Option ME
  t : Cc → Expr → Option MT
  a : Cc → List Expr → Option MA
  w : BoolOp → Cc → List Expr → Option MT
  v : BoolOp → Cc → List Expr → Option ME
  i : Cc → Expr → Option MI
def CF.none : CF := ⟨fun _ _ => .none, fun _ _ => .none, fun _ _ => .none, fun _ _ _ => .none, fun _ _ _ => .none, fun _ _ => .none⟩

def isSet : Expr → Bool
  | .Set _ _ _ => true
  | _ => false
def isCall : Expr → Bool
  | .Call _ _ _ _ => true
  | _ => false
def blkOk (c : Cc) (scope : Scope) : Bool := decide (scope.kind = .function) && (scope.names.all fun y => decide (scope.names.lookup y.1 = some y.2)) &&
  scope.names.all fun y => !decide (y.2 = .free) || decide (c.names.lookup y.1 = some .cell) || decide (c.names.lookup y.1 = some .free)
def ownOf (N : List Str) (names : List (Str × NameKind)) : List (Str × Nat) := names.filterMap fun y => if decide (y.2 = .local) || decide (y.2 = .cell) then (ixOf y.1 N).map fun i => (y.1, i) else none
def tgNs (c : Cc) : List Expr → Option (List Nat × MGs)
  | [] => some ([], gtNil)
  | .Name x _ :: es => match putIx c x, tgNs c es with
    | some i, some (is, gs) => some (i :: is, gtCons (gtN i) gs)
    | _, _ => none
  | _ :: _ => none
def tgS (c : Cc) : Expr → Option (List Nat × MG)
  | .Name x _ => (putIx c x).map fun i => ([i], gtN i)
  | .Tuple es _ _ => (tgNs c es).map fun p => (p.1, gtTup es.length p.2)
  | _ => none
def conD : Const → Option D
  | .int i => some (.int i)
  | .str x => some (.str x)
  | .bool b => some (.bl b)
  | .none => some .non
  | _ => none
def keyOf : Option Expr → Option Key
  | some (.Constant (.int i) _ _) => some (.inl i)
  | some (.Constant (.str x) _ _) => some (.inr x)
  | _ => none
def keysOf : List (Option Expr) → Option (List Key)
  | [] => some []
  | k :: ks => match keyOf k, keysOf ks with
    | some a, some as => some (a :: as)
    | _, _ => none
section
variable (O : Nat → List SV → FRes) (G : List (Str × GV)) (r : CF)
def eName (c : Cc) (x : Str) : Option ME := match seeIx c x with
  | some i => some (mVar i)
  | none => match gvOf G c x with
    | some (.int v) => some (mC (.int v))
    | some (.str v) => some (mC (.str v))
    | _ => none
def eBin (c : Cc) (a : Expr) (op : Operator) (b : Expr) : Option ME := match binG op, r.e c a, r.e c b with
  | some g, some ma, some mb => some (mBin g ma mb)
  | _, _, _ => none
def eUn (c : Cc) (op : UnaryOp) (a : Expr) : Option ME := match op, r.e c a with
  | .USub, some ma => some (mUn gNeg ma)
  | .Not, some ma => some (mNotV ma)
  | _, _ => none
def eCmp (c : Cc) (a : Expr) (ops : List CmpOp) (bs : List Expr) : Option ME := match ops, bs with
  | [op], [b] => match cmpG op, r.e c a, r.e c b with
    | some g, some ma, some mb => if isSet b then none else some (mBin g ma mb)
    | _, _, _ => none
  | [op, op'], [b, b'] => match cmpG op, cmpG op', r.e c a, r.e c b, r.e c b' with
    | some g, some g', some ma, some mb, some mc => if isSet b' then none else some (mChain g g' ma mb mc)
    | _, _, _, _, _ => none
  | _, _ => none
def eIf (c : Cc) (t a b : Expr) : Option ME := match r.t c t, r.e c a, r.e c b with
  | some mt, some ma, some mb => some (mIf mt ma mb)
  | _, _, _ => none
def eDisp (tup : Bool) (c : Cc) (es : List Expr) : Option ME := if es.length ≤ 1000 then (r.a c es).map (mDisp tup) else none
def dctVs (c : Cc) : List Expr → Option (List ME)
  | [] => some []
  | e :: es => match r.e c e, dctVs c es with
    | some m, some ms => some (m :: ms)
    | _, _ => none
def eDict (c : Cc) (keys : List (Option Expr)) (vs : List Expr) : Option ME := match keys, vs with
  | [], [] => some (mDct [] mNil)
  | k :: ks, vs => match keysOf (k :: ks), dctVs r c vs with
    | some as, some ms => if decide as.Nodup && decide (as.length = ms.length) && decide ((k :: ks).length ≤ 15) && decide ((k :: ks).length = vs.length) && (k :: ks).all (·.isSome) then some (mDct as (mAll ms)) else none
    | _, _ => none
  | _, _ => none
def cPart (c : Cc) : Option Expr → Option MO
  | none => some mNoPart
  | some e => (r.e c e).map mPart
def eSub (c : Cc) (a b : Expr) : Option ME := match b with
  | .Slice lo hi none _ => match r.e c a, cPart r c lo, cPart r c hi with
    | some ma, some ml, some mh => some (mSl gSl ma ml mh)
    | _, _, _ => none
  | .Slice _ _ (some _) _ => none
  | b => match r.e c a, r.e c b with
    | some ma, some mb => some (mBin gIx ma mb)
    | _, _ => none
def eFn (c : Cc) (i : Nat) (args : List Expr) : Option ME := match args with
  | [] => some (mCall (O i) mNil)
  | e :: es => if (e :: es).all plainE then (r.a c (e :: es)).map (mCall (O i)) else none
def eIsi (c : Cc) (args : List Expr) : Option ME := match args with
  | [e, .Name t _] => match gvOf G c t, tyOf t, r.e c e with
    | some .blt, some T, some m => if plainE e then some (mUn (gIsi T) m) else none
    | _, _, _ => none
  | _ => none
def eBlt (c : Cc) (x : Str) (args : List Expr) : Option ME := match args with
  | [] => none
  | e :: es => match biOf x, r.a c (e :: es) with
    | some (_, _, g), some ms => if (e :: es).all plainE then some (mBi g ms) else none
    | _, _ => none
def eMeth (c : Cc) (o : Expr) (m : Str) (apos : Pos) (args : List Expr) (pos : Pos) : Option ME := match args with
  | [e] => match r.e c o, r.a c [e] with
    | some mo, some ms => if decide (m = "join") && plainE e && !isCall o && (apos.endLine == pos.line) then some (mMtS (un2 gJoin) mo ms) else none
    | _, _ => none
  | _ => none
def eCall (c : Cc) (f : Expr) (args : List Expr) (kw : List Keyword) (pos : Pos) : Option ME := match kw with
  | [] => match f with
    | .Name x _ => match gvOf G c x with
      | some (.fn i) => eFn O r c i args
      | some .blt => if x = "isinstance" then eIsi G r c args else eBlt r c x args
      | _ => none
    | .Attribute o m apos => eMeth r c o m apos args pos
    | _ => none
  | _ => none
def tIfs (c : Cc) : List Expr → Option MT
  | [] => some mYes
  | [e] => r.t c e
  | _ => none
def eLc (c : Cc) (elt : Expr) (gens : List Comprehension) (scope : Scope) : Option ME := match gens with
  | [⟨tg, iter, ifs, a⟩] => match r.i c iter, tgS ⟨c.N, scope.names⟩ tg, tIfs r ⟨c.N, scope.names⟩ ifs, r.e ⟨c.N, scope.names⟩ elt with
    | some mi, some (is, g), some mt, some me => if decide (a = 0) && blkOk c scope && !isSet iter && is.all (fun i => decide (i ∈ (ownOf c.N scope.names).map (·.2))) then some (mLc mi g mt me ((ownOf c.N scope.names).map (·.2))) else none
    | _, _, _, _ => none
  | _ => none
def eS (c : Cc) : Expr → Option ME
  | .Name x _ => eName G c x
  | .Constant k _ _ => (conD k).map mC
  | .BinOp a op b _ => eBin r c a op b
  | .UnaryOp op a _ => eUn r c op a
  | .Compare a ops bs _ => eCmp r c a ops bs
  | .BoolOp op vs _ => r.v op c vs
  | .IfExp t a b _ => eIf r c t a b
  | .Tuple es _ _ => eDisp r true c es
  | .List es _ => eDisp r false c es
  | .Dict ks vs _ => eDict r c ks vs
  | .Subscript a b _ => eSub r c a b
  | .Call f args kw pos => eCall O G r c f args kw pos
  | .ListComp elt gens scope _ => eLc r c elt gens scope
  | _ => none
def tCmp (c : Cc) (a : Expr) (ops : List CmpOp) (bs : List Expr) : Option MT := (eCmp r c a ops bs).map mBl
def tS' (c : Cc) : Expr → Option MT
  | .UnaryOp op a _ => match op with
    | .Not => (r.t c a).map mNot
    | _ => none
  | .BoolOp op vs _ => r.w op c vs
  | .Compare a ops bs _ => tCmp r c a ops bs
  | .IfExp _ _ _ _ => none
  | .Name x p => (r.e c (.Name x p)).map mTru
  | .Call f args kw pos => (r.e c (.Call f args kw pos)).map mTru
  | .Subscript a b p => (r.e c (.Subscript a b p)).map mTru
  | .Constant k j p => (r.e c (.Constant k j p)).map mTru
  | .ListComp elt gens scope p => (r.e c (.ListComp elt gens scope p)).map mTru
  | .Attribute o m p => (r.e c (.Attribute o m p)).map mTru
  | _ => none
def aS (c : Cc) : List Expr → Option MA
  | [] => some mNil
  | e :: es => match r.e c e, r.a c es with
    | some m, some ms => if plainE e then some (mCons m ms) else none
    | _, _ => none
def wS (op : BoolOp) (c : Cc) : List Expr → Option MT
  | [] => none
  | [a] => r.t c a
  | a :: b :: rest => match r.t c a, r.w op c (b :: rest) with
    | some ta, some tb => some (match op with
      | .And => mAnd ta tb
      | .Or => mOr ta tb)
    | _, _ => none
def vS (op : BoolOp) (c : Cc) : List Expr → Option ME
  | [] => none
  | [a] => r.e c a
  | a :: b :: rest => match r.e c a, r.v op c (b :: rest) with
    | some ta, some tb => some (match op with
      | .And => mAndV ta tb
      | .Or => mOrV ta tb)
    | _, _ => none
def iRng (c : Cc) (args : List Expr) : Option MI := match args with
  | [a] => if plainE a then (r.a c [a]).map mRng1 else none
  | [a, b] => if plainE a && plainE b then (r.a c [a, b]).map mRng2 else none
  | _ => none
def isBlt (c : Cc) (x : Str) : Bool := match gvOf G c x with
  | some .blt => true
  | _ => false
def iS (c : Cc) : Expr → Option MI
  | .Call (.Name x p) args [] pos => if decide (x = "range") && isBlt G c x then iRng r c args else (r.e c (.Call (.Name x p) args [] pos)).map mItV
  | e => (r.e c e).map mItV
def CF.step : CF := ⟨eS O G r, tS' r, aS r, wS r, vS r, iS G r⟩
def cf : Nat → CF
  | 0 => CF.none
  | n + 1 => CF.step O G (cf n)
end
end JM

namespace JM
open PySem PySem.Spec L2

section
variable (κ : Nat → Addr) (O : Nat → List SV → FRes) (G : List (Str × GV))
def GvOk (X : Cx) (x : Str) : GV → Prop
  | .fn i => ∃ f fd ps k, X.mg x = some (.ref f) ∧ PySem.W.keepIn X.K (.ref f) = true ∧ Binds X.K fd ps [] ∧ FnG X.prog X.w X.K X.mg X.base k f fd ps (spO κ (O i)) ∧ Room k X.A
  | .int v => ∃ t, X.mg x = some (.int v t)
  | .str v => ∃ t, X.mg x = some (.str v t)
  | .blt => X.mg x = none
structure CtxOk (c : Cc) (X : Cx) (W : WX) : Prop where
  n : X.N = c.N
  nd : X.N.Nodup
  see : ∀ x, visK (c.names.lookup x) = true → Vis X.env.scope x
  put : ∀ x, locK (c.names.lookup x) = true → Loc X.env.scope x ∧ (X.fn x = true ∨ X.env.scope.names.lookup x = some .local)
  lcl : ∀ x, c.names.lookup x = some .local → X.env.scope.names.lookup x = some .local
  cf : ∀ x, c.names.lookup x = some .cell ∨ c.names.lookup x = some .free → X.env.scope.names.lookup x = some .cell ∨ X.env.scope.names.lookup x = some .free
  gl : ∀ x, c.names.lookup x = some .globalImplicit → Gl X x
  calm : X.calm = true
  un : X.A.units + 64 < cLine
  gd : X.A.guards = some []
  tk : Takes X W
  glob : ∀ x gv, G.lookup x = some gv → GvOk κ O X x gv
structure OkAt (r : CF) (c : Cc) (X : Cx) (W : WX) : Prop where
  e : ∀ e m, r.e c e = some m → PE X e (tE κ W m)
  t : ∀ e m, r.t c e = some m → PT X e (tT κ W m)
  a : ∀ es m, r.a c es = some m → PA X es (tA κ W m) ∧ LenA es.length m
  w : ∀ op vs m pos, r.w op c vs = some m → PW X (.BoolOp op vs pos) (tT κ W m)
  v : ∀ op vs m pos, r.v op c vs = some m → PE X (.BoolOp op vs pos) (tE κ W m)
  i : ∀ e m tg, r.i c e = some m → PI X tg e (tI κ W m)
def Ok (r : CF) : Prop := ∀ c X W, CtxOk κ O G c X W → OkAt κ r c X W
end
section
variable {κ : Nat → Addr} {O : Nat → List SV → FRes} {G : List (Str × GV)} {r : CF} {c : Cc} {X : Cx} {W : WX} {e a b : Expr} {es : List Expr} {m : ME} {mt : MT} {ms : MA} {pos : Pos}
theorem okName_of {x : Str} (h : okName x = true) : (x == ("__debug__" : Str)) = false ∧ (x == ("__classdict__" : Str)) = false ∧ x ≠ "__name__" := by
  unfold okName at h
  simp only [Bool.and_eq_true, Bool.not_eq_true', decide_eq_false_iff_not] at h
  exact ⟨beq_eq_false_iff_ne.mpr h.1.1, beq_eq_false_iff_ne.mpr h.1.2, h.2⟩
theorem seeIx_ok (C : CtxOk κ O G c X W) {x : Str} {i : Nat} (h : seeIx c x = some i) : X.N[i]? = some x ∧ Vis X.env.scope x ∧ okName x = true := by
  unfold seeIx at h
  by_cases z : (visK (c.names.lookup x) && okName x) = true
  · rw [if_pos z] at h
    rw [Bool.and_eq_true] at z
    exact ⟨by rw [C.n]; exact ixOf_get h, C.see x z.1, z.2⟩
  · rw [if_neg z] at h; cases h
theorem putIx_ok (C : CtxOk κ O G c X W) {x : Str} {i : Nat} (h : putIx c x = some i) : X.N[i]? = some x ∧ Loc X.env.scope x ∧ (X.fn x = true ∨ X.env.scope.names.lookup x = some .local) := by
  unfold putIx at h
  by_cases z : locK (c.names.lookup x) = true
  · rw [if_pos z] at h
    exact ⟨by rw [C.n]; exact ixOf_get h, C.put x z⟩
  · rw [if_neg z] at h; cases h
theorem gvOf_ok (C : CtxOk κ O G c X W) {x : Str} {gv : GV} (h : gvOf G c x = some gv) : Gl X x ∧ okName x = true ∧ GvOk κ O X x gv := by
  unfold gvOf at h
  by_cases z : (decide (c.names.lookup x = some .globalImplicit) && okName x) = true
  · rw [if_pos z] at h
    rw [Bool.and_eq_true] at z
    exact ⟨C.gl x (of_decide_eq_true z.1), z.2, C.glob x gv h⟩
  · rw [if_neg z] at h; cases h
theorem eName_ok (C : CtxOk κ O G c X W) {x : Str} (h : eName G c x = some m) : PE X (.Name x pos) (tE κ W m) := by
  unfold eName at h
  cases hs : seeIx c x with
  | some i =>
    rw [hs] at h; cases h
    obtain ⟨h1, h2, h3⟩ := seeIx_ok C hs
    obtain ⟨n1, n2, _⟩ := okName_of h3
    exact s_var h1 h2 n1 n2
  | none =>
    rw [hs] at h
    cases hg : gvOf G c x with
    | none => simp only [hg] at h; cases h
    | some gv =>
      simp only [hg] at h
      obtain ⟨h1, h2, h3⟩ := gvOf_ok C hg
      obtain ⟨n1, n2, n3⟩ := okName_of h2
      cases gv with
      | fn i => cases h
      | blt => cases h
      | int v =>
        cases h
        obtain ⟨t, h3⟩ := h3
        exact s_c (v := .int v) (pe_glob h1 h3 ⟨t, rfl⟩ n1) fun _ _ => rfl
      | str v =>
        cases h
        obtain ⟨t, h3⟩ := h3
        exact s_c (v := .str v) (pe_glob h1 h3 ⟨t, rfl⟩ n1) fun _ _ => rfl
theorem eCon_ok {k : Const} {j : Nat} {d : D} (h : conD k = some d) : PE X (.Constant k j pos) (tE κ W (mC d)) := by
  cases k <;> cases h
  · exact s_c pe_non fun _ _ => rfl
  · exact s_c pe_bl fun _ _ => rfl
  · exact s_c pe_int fun _ _ => rfl
  · exact s_c pe_str fun _ _ => rfl
theorem not_set {op : CmpOp} (h : ¬ isSet e = true) : behindInMarks op e = false := by
  cases e <;> first | rfl | exact absurd rfl h
theorem not_set_it {env : Env} (h : isSet e = false) : ∀ x, foldedSetIterable e env x = pure x := by
  intro x
  cases e <;> first | rfl | cases h
theorem eCmp_ok (C : CtxOk κ O G c X W) (K : OkAt κ r c X W) {ops : List CmpOp} {bs : List Expr} (h : eCmp r c a ops bs = some m) :
    PE X (.Compare a ops bs pos) (tE κ W m) ∧ PT X (.Compare a ops bs pos) (tT κ W (mBl m)) := by
  unfold eCmp at h
  split at h
  next op b =>
    split at h
    next g ma mb e1 e2 e3 =>
      by_cases hb : isSet b = true
      · rw [if_pos hb] at h; cases h
      · rw [if_neg hb] at h
        cases h
        exact ⟨s_cmp (cmpG_ok C.un e1) (K.e _ _ e2) (K.e _ _ e3) (not_set hb), s_tcmp (cmpG_ok C.un e1) (K.e _ _ e2) (K.e _ _ e3) (not_set hb)⟩
    next => cases h
  next op op' b b' =>
    split at h
    next g g' ma mb mc e1 e1' e2 e3 e4 =>
      by_cases hb : isSet b' = true
      · rw [if_pos hb] at h; cases h
      · rw [if_neg hb] at h
        cases h
        have hm : lastMarks [op, op'] [b, b'] = false := by
          show behindInMarks op' b' = false
          exact not_set hb
        exact ⟨s_chain (cmpG_ok C.un e1) (cmpG_ok C.un e1') (K.e _ _ e2) (K.e _ _ e3) (K.e _ _ e4) hm, s_tchain (cmpG_ok C.un e1) (cmpG_ok C.un e1') (K.e _ _ e2) (K.e _ _ e3) (K.e _ _ e4) hm⟩
    next => cases h
  next => cases h
theorem eBin_ok (K : OkAt κ r c X W) {op : Operator} (h : eBin r c a op b = some m) : PE X (.BinOp a op b pos) (tE κ W m) := by
  unfold eBin at h
  split at h
  next g ma mb e1 e2 e3 => cases h; exact s_bin (binG_ok e1) (K.e _ _ e2) (K.e _ _ e3)
  next => cases h
theorem eUn_ok (K : OkAt κ r c X W) {op : UnaryOp} (h : eUn r c op a = some m) : PE X (.UnaryOp op a pos) (tE κ W m) := by
  unfold eUn at h
  split at h
  next ma e1 => cases h; exact s_un d_neg (K.e _ _ e1)
  next ma e1 => cases h; exact s_vnot (K.e _ _ e1)
  next => cases h
theorem eIf_ok (K : OkAt κ r c X W) {t : Expr} (h : eIf r c t a b = some m) : PE X (.IfExp t a b pos) (tE κ W m) := by
  unfold eIf at h
  split at h
  next mt ma mb e1 e2 e3 => cases h; exact s_if (K.t _ _ e1) (K.e _ _ e2) (K.e _ _ e3)
  next => cases h
theorem line1000 : (1000 : Nat) ≤ sizeLine := by rw [sizeLine_eq]; decide
theorem eDisp_ok (K : OkAt κ r c X W) {k : Nat} (h : eDisp r true c es = some m) : PE X (.Tuple es k pos) (tE κ W m) := by
  unfold eDisp at h
  by_cases z : es.length ≤ 1000
  · rw [if_pos z] at h
    cases q : r.a c es with
    | none => rw [q] at h; cases h
    | some ms => rw [q] at h; cases h; exact s_tup (K.a _ _ q).1 (K.a _ _ q).2 (Nat.le_trans z line1000)
  · rw [if_neg z] at h; cases h
theorem eDisp_ok' (K : OkAt κ r c X W) (h : eDisp r false c es = some m) : PE X (.List es pos) (tE κ W m) := by
  unfold eDisp at h
  by_cases z : es.length ≤ 1000
  · rw [if_pos z] at h
    cases q : r.a c es with
    | none => rw [q] at h; cases h
    | some ms => rw [q] at h; cases h; exact s_lst (K.a _ _ q).1 (K.a _ _ q).2 (Nat.le_trans z line1000)
  · rw [if_neg z] at h; cases h
theorem keyOf_ok {k : Option Expr} {a : Key} (h : keyOf k = some a) : ∃ e, k = some e ∧ PE X e (tC (kV a)) := by
  unfold keyOf at h
  split at h
  next i j p => cases h; exact ⟨_, rfl, pe_int⟩
  next x j p => cases h; exact ⟨_, rfl, pe_str⟩
  next => cases h
theorem pps_ok (K : OkAt κ r c X W) : ∀ {ks : List (Option Expr)} {vs : List Expr} {as : List Key} {ms : List ME}, keysOf ks = some as → dctVs r c vs = some ms → ks.length = vs.length →
    PPs X pos ks vs (List.zipWith (fun k m => (tC (kV k), tE κ W m)) as ms) ∧ as.length = ks.length ∧ ms.length = vs.length
  | [], [], as, ms, h1, h2, _ => by cases h1; cases h2; exact ⟨pps_nil, rfl, rfl⟩
  | [], _ :: _, _, _, _, _, h => by cases h
  | _ :: _, [], _, _, _, _, h => by cases h
  | k :: ks, v :: vs, as, ms, h1, h2, hl => by
    unfold keysOf at h1
    split at h1
    next a as' e1 e2 =>
      unfold dctVs at h2
      split at h2
      next m ms' e3 e4 =>
        cases h1; cases h2
        obtain ⟨q1, q2, q3⟩ := pps_ok K e2 e4 (by simpa using hl)
        obtain ⟨e, rfl, he⟩ := keyOf_ok (X := X) e1
        exact ⟨pps_cons he (K.e _ _ e3) q1, by simp [q2], by simp [q3]⟩
      next => cases h2
    next => cases h1
theorem eDict_ok (K : OkAt κ r c X W) {keys : List (Option Expr)} {vs : List Expr} (h : eDict r c keys vs = some m) : PE X (.Dict keys vs pos) (tE κ W m) := by
  unfold eDict at h
  split at h
  next => cases h; exact s_dct0
  next k ks vs =>
    split at h
    next as ms e1 e2 =>
      split at h
      next z =>
        cases h
        simp only [Bool.and_eq_true, decide_eq_true_eq] at z
        obtain ⟨⟨⟨⟨z1, z2⟩, z3⟩, z4⟩, z5⟩ := z
        obtain ⟨q1, q2, q3⟩ := pps_ok K e1 e2 z4
        exact s_dct q1 z1 z2 q2.symm z5 z4 (by simp) (by rw [q2]; exact z3)
      next => cases h
    next => cases h
  next => cases h
theorem cPart_ok (K : OkAt κ r c X W) {o : Option Expr} {mo : MO} (h : cPart r c o = some mo) : PO X o (tO κ W mo) := by
  cases o with
  | none => cases h; exact s_nopart
  | some e =>
    unfold cPart at h
    cases q : r.e c e with
    | none => simp only [q] at h; cases h
    | some m => simp only [q] at h; cases h; exact s_part (K.e _ _ q)
theorem eSub_ok (K : OkAt κ r c X W) (h : eSub r c a b = some m) : PE X (.Subscript a b pos) (tE κ W m) := by
  unfold eSub at h
  split at h
  next lo hi p =>
    split at h
    next ma ml mh e1 e2 e3 => cases h; exact s_sl sl_d (K.e _ _ e1) (cPart_ok K e2) (cPart_ok K e3)
    next => cases h
  next => cases h
  next b' n1 n2 =>
    split at h
    next ma mb e1 e2 =>
      cases h
      refine s_ix ix_d (K.e _ _ e1) (K.e _ _ e2) (plainIx_ok ?_)
      cases b with
      | Slice lo hi st p => cases st with
        | none => exact absurd rfl (n1 lo hi p)
        | some s => rfl
      | _ => rfl
    next => cases h
theorem eFn_ok (C : CtxOk κ O G c X W) (K : OkAt κ r c X W) {i : Nat} {x : Str} {p : Pos} (hx : gvOf G c x = some (.fn i)) (h : eFn O r c i es = some m) : PE X (.Call (.Name x p) es [] pos) (tE κ W m) := by
  obtain ⟨g1, g2, f, fd, ps, k, m1, kp, bd, F, R⟩ := gvOf_ok C hx
  obtain ⟨n1, _, _⟩ := okName_of g2
  have W' : ∀ σ, PassesAt (L2.CX X.prog X.w) X σ (WE W σ) := fun σ => passAt C.tk σ
  unfold eFn at h
  split at h
  next =>
    cases h
    refine PE.imp (pe_callG0 F R C.gd g1 m1 kp bd W' n1) fun σ H Q q => ?_
    have := call_post q
    obtain ⟨F', ρ, en, p⟩ := this
    exact p F' H .refl en [] rfl
  next e es =>
    by_cases z : (e :: es).all plainE = true
    · rw [if_pos z] at h
      cases q : r.a c (e :: es) with
      | none => rw [q] at h; cases h
      | some ms =>
        rw [q] at h; cases h
        have z' := z
        rw [List.all_cons, Bool.and_eq_true] at z'
        exact PE.imp (pe_callG F R C.gd g1 m1 kp bd W' (K.a _ _ q).1 n1 (starEach_plain z'.1) (backTo_plain z'.2)) fun σ H Q q => call_post q
    · rw [if_neg z] at h; cases h
theorem eIsi_ok (C : CtxOk κ O G c X W) (K : OkAt κ r c X W) {x : Str} {p : Pos} (hx : gvOf G c x = some .blt) (hn : x = "isinstance") (h : eIsi G r c es = some m) : PE X (.Call (.Name x p) es [] pos) (tE κ W m) := by
  obtain ⟨g1, g2, g3⟩ := gvOf_ok C hx
  obtain ⟨n1, _, n3⟩ := okName_of g2
  unfold eIsi at h
  split at h
  next e t p2 =>
    split at h
    next T m' e1 e2 e3 =>
      by_cases z : plainE e = true
      · rw [if_pos z] at h
        cases h
        obtain ⟨t1, t2, t3⟩ := gvOf_ok C e1
        obtain ⟨y1, _, y3⟩ := okName_of t2
        subst hn
        exact s_isi g1 g3 (by decide +kernel) t1 t3 (tyOf_ok e2) (K.e _ _ e3) n3 n1 y3 y1 (starEach_plain z) rfl rfl
      · rw [if_neg z] at h; cases h
    next => cases h
  next => cases h
theorem eBlt_ok (C : CtxOk κ O G c X W) (K : OkAt κ r c X W) {x : Str} {p : Pos} (hx : gvOf G c x = some .blt) (h : eBlt r c x es = some m) : PE X (.Call (.Name x p) es [] pos) (tE κ W m) := by
  obtain ⟨g1, g2, g3⟩ := gvOf_ok C hx
  obtain ⟨n1, _, n3⟩ := okName_of g2
  unfold eBlt at h
  split at h
  next => cases h
  next e es =>
    split at h
    next b id g ms e1 e2 =>
      by_cases z : (e :: es).all plainE = true
      · rw [if_pos z] at h
        cases h
        rw [List.all_cons, Bool.and_eq_true] at z
        obtain ⟨q1, q2⟩ := biOf_ok (κ := κ) (X := X) C.calm C.un C.gd e1
        cases b with
        | true => exact s_bi q2 g1 g3 q1 (K.a _ _ e2).1 n3 n1 (starEach_plain z.1) (backTo_plain z.2)
        | false => exact s_ty q2 g1 g3 q1 (K.a _ _ e2).1 n3 n1 (starEach_plain z.1) (backTo_plain z.2)
      · rw [if_neg z] at h; cases h
    next => cases h
theorem base_plain {o : Expr} {m : Str} {env : Env} (h : isCall o = false) : attributeBase o m env (eval o env) = eval o env := by
  cases o <;> first | rfl | cases h
theorem eMeth_ok (K : OkAt κ r c X W) {o : Expr} {nm : Str} {apos : Pos} (h : eMeth r c o nm apos es pos = some m) : PE X (.Call (.Attribute o nm apos) es [] pos) (tE κ W m) := by
  unfold eMeth at h
  split at h
  next e =>
    split at h
    next mo ms e1 e2 =>
      split at h
      next z =>
        cases h
        simp only [Bool.and_eq_true, decide_eq_true_eq, Bool.not_eq_true'] at z
        obtain ⟨⟨⟨z1, z2⟩, z3⟩, z4⟩ := z
        subst z1
        have hp : ([e] : List Expr).all plainE = true := by simp [z2]
        refine PE.imp (pe_bm PySem.F.plainAttrs_str PySem.F.slot_str_join PySem.F.type_str_join (mt_joinD (κ := κ)) (K.e _ _ e1) (K.a _ _ e2).1 (base_plain z3) ?_ z4 (starEach_plain z2) rfl) ?_
        · rw [backTo_few hp]; rfl
        · rintro σ H Q ⟨F, ρ, en, p⟩
          refine ⟨F, ρ, en, p.bindO fun rv F1 H1 ρ1 _ s1 e1 p1 v rr => ?_⟩
          cases rv with
          | fr d => exact p1.elim
          | nm i => exact p1.elim
          | pu d =>
            cases d with
            | str z =>
              have ev : v = .str z := rr
              subst ev
              have p1 : Post κ W F σ H ρ ((ms ρ1).bind fun rs ρ2 => match conts ρ2 rs with
                | some ds => opRes (un2 gJoin (.str z) ds) ρ2
                | none => .bad) fun r F' H' ρ' => ∀ v, RRep κ F' σ H H' ρ' v r → Q v H' := p1
              refine ⟨rfl, F1, ρ1, e1, Post.bind (Post.after s1 p1) fun rs F2 H2 ρ2 s2 e2 p2 vs rvs => ?_⟩
              cases hc : conts ρ2 rs with
              | none => simp only [hc] at p2; exact p2.elim
              | some ds =>
                simp only [hc] at p2
                exact ⟨F2, .str z, ds, e2.trk, .inl rfl, rvs.bors e2 hc, opPost (s1.trans s2) e2 p2⟩
            | _ => exact p1.elim
      next => cases h
    next => cases h
  next => cases h
theorem eCall_ok (C : CtxOk κ O G c X W) (K : OkAt κ r c X W) {f : Expr} {kw : List Keyword} (h : eCall O G r c f es kw pos = some m) : PE X (.Call f es kw pos) (tE κ W m) := by
  unfold eCall at h
  split at h
  next =>
    split at h
    next x p =>
      split at h
      next i e1 => exact eFn_ok C K e1 h
      next e1 =>
        by_cases z : x = "isinstance"
        · rw [if_pos z] at h; exact eIsi_ok C K e1 z h
        · rw [if_neg z] at h; exact eBlt_ok C K e1 h
      next => cases h
    next o nm apos => exact eMeth_ok K h
    next => cases h
  next => cases h
theorem rel_lookup {env : Env} : ∀ {names : List (Str × NameKind)} {x : Str} {k : NameKind}, names.lookup x = some k →
    ∃ k', (names.map fun (n, k) => if (k == NameKind.free && env.scope.kind == .function && env.kindOf n == some .cell) then (n, NameKind.cell) else (n, k)).lookup x = some k' ∧ (k' = k ∨ (k = .free ∧ k' = .cell))
  | [], _, _, h => by simp at h
  | (n, k0) :: names, x, k, h => by
    rw [List.map_cons]
    by_cases hn : x = n
    · subst hn
      rw [List.lookup_cons, beq_self_eq_true] at h
      have h : k0 = k := Option.some.inj h
      subst h
      by_cases z : (k0 == NameKind.free && env.scope.kind == .function && env.kindOf x == some .cell) = true
      · refine ⟨.cell, ?_, .inr ⟨?_, rfl⟩⟩
        · dsimp only; rw [if_pos z, List.lookup_cons, beq_self_eq_true]
        · simp only [Bool.and_eq_true] at z
          exact eq_of_beq z.1.1
      · refine ⟨k0, ?_, .inl rfl⟩
        dsimp only
        rw [if_neg z, List.lookup_cons, beq_self_eq_true]
    · have hb : (x == n) = false := beq_eq_false_iff_ne.mpr hn
      rw [List.lookup_cons, hb] at h
      obtain ⟨k', q1, q2⟩ := rel_lookup (env := env) h
      refine ⟨k', ?_, q2⟩
      by_cases z : (k0 == NameKind.free && env.scope.kind == .function && env.kindOf n == some .cell) = true
      · dsimp only
        rw [if_pos z, List.lookup_cons, hb]
        exact q1
      · dsimp only
        rw [if_neg z, List.lookup_cons, hb]
        exact q1
/-- the context of a comprehension's block -/
theorem CtxOk.blk (C : CtxOk κ O G c X W) {scope : Scope} (s : Shared) (H : Hp) (Ca : Addr) (cl : List (Str × Addr)) (fp : List Addr) : CtxOk κ O G ⟨c.N, scope.names⟩ (X.blk s H scope (compEnvC scope cl Ca X.env) fp) noW where
  n := C.n
  nd := C.nd
  see := fun x h => by
    cases q : scope.names.lookup x with
    | none => rw [show (Cc.mk c.N scope.names).names.lookup x = none from q] at h; cases h
    | some k =>
      rw [show (Cc.mk c.N scope.names).names.lookup x = some k from q] at h
      obtain ⟨k', q1, q2⟩ := rel_lookup (env := X.env) q
      have hk : k' = .local ∨ k' = .cell ∨ k' = .free := by
        rcases q2 with rfl | ⟨_, rfl⟩
        · cases k' <;> first | exact .inl rfl | exact .inr (.inl rfl) | exact .inr (.inr rfl) | cases h
        · exact .inr (.inl rfl)
      rcases hk with rfl | rfl | rfl
      · exact .inl q1
      · exact .inr (.inl q1)
      · exact .inr (.inr q1)
  put := fun x h => by
    cases q : scope.names.lookup x with
    | none => rw [show (Cc.mk c.N scope.names).names.lookup x = none from q] at h; cases h
    | some k =>
      rw [show (Cc.mk c.N scope.names).names.lookup x = some k from q] at h
      obtain ⟨k', q1, q2⟩ := rel_lookup (env := X.env) q
      have hk : k = .local ∨ k = .cell := by cases k <;> first | exact .inl rfl | exact .inr rfl | cases h
      rcases hk with rfl | rfl
      · rcases q2 with rfl | ⟨z, _⟩
        · exact ⟨.inl q1, .inr q1⟩
        · cases z
      · rcases q2 with rfl | ⟨z, _⟩
        · refine ⟨.inr q1, .inl ?_⟩
          show (scope.names.lookup x == some NameKind.cell) = true
          rw [q]; rfl
        · cases z
  lcl := fun x h => by
    obtain ⟨k', q1, q2⟩ := rel_lookup (env := X.env) (show scope.names.lookup x = some .local from h)
    rcases q2 with rfl | ⟨z, _⟩
    · exact q1
    · cases z
  cf := fun x h => by
    have h : scope.names.lookup x = some .cell ∨ scope.names.lookup x = some .free := h
    rcases h with h | h
    · obtain ⟨k', q1, q2⟩ := rel_lookup (env := X.env) h
      rcases q2 with rfl | ⟨z, _⟩
      · exact .inl q1
      · cases z
    · obtain ⟨k', q1, q2⟩ := rel_lookup (env := X.env) h
      rcases q2 with rfl | ⟨_, rfl⟩
      · exact .inr q1
      · exact .inl q1
  gl := fun x h => by
    obtain ⟨k', q1, q2⟩ := rel_lookup (env := X.env) (show scope.names.lookup x = some .globalImplicit from h)
    rcases q2 with rfl | ⟨z, _⟩
    · exact q1
    · cases z
  calm := C.calm
  un := C.un
  gd := C.gd
  tk := takes0
  glob := fun x gv h => by
    have := C.glob x gv h
    cases gv <;> exact this
theorem tgNs_ok (C : CtxOk κ O G c X W) : ∀ {es : List Expr} {is : List Nat} {gs : MGs}, tgNs c es = some (is, gs) → PGs X es (tGs κ is gs) ∧ (assignEach es X.env).length = es.length ∧ (assignEach es X.env).findIdx? (·.1) = none
  | [], is, gs, h => by
    cases h
    exact ⟨sgs_nil (hgn := pgs_nil), rfl, rfl⟩
  | e :: es, is, gs, h => by
    cases e with
    | Name x p =>
      unfold tgNs at h
      split at h
      next i is' gs' e1 e2 =>
        cases h
        obtain ⟨q1, q2, q3⟩ := tgNs_ok C e2
        obtain ⟨k1, k2, k3⟩ := putIx_ok C e1
        refine ⟨PGs.imp (pgs_cons (sg_name C.nd k1 k2 k3) q1 rfl) fun v σ H Q z => tgs_cons (is := [i]) z, ?_, ?_⟩
        · show (assignEach es X.env).length + 1 = es.length + 1
          rw [q2]
        · show List.findIdx? (·.1) ((false, assign (.Name x p) X.env) :: assignEach es X.env) = none
          rw [List.findIdx?_cons]
          simp [q3]
      next => cases h
    | _ => cases h
theorem tgS_ok (C : CtxOk κ O G c X W) {tg : Expr} {is : List Nat} {g : MG} (h : tgS c tg = some (is, g)) : PG X tg (tG κ is g) := by
  unfold tgS at h
  split at h
  next x p =>
    cases q : putIx c x with
    | none => rw [q] at h; cases h
    | some i =>
      rw [q] at h; cases h
      obtain ⟨k1, k2, k3⟩ := putIx_ok C q
      exact sg_name C.nd k1 k2 k3
  next es k p =>
    cases q : tgNs c es with
    | none => rw [q] at h; cases h
    | some z =>
      obtain ⟨is', gs⟩ := z
      rw [q] at h; cases h
      obtain ⟨q1, q2, q3⟩ := tgNs_ok C q
      exact PG.imp (pg_tup C.calm q1 q2 q3) fun v σ H Q z => tg_tup z
  next => cases h
theorem ownOf_get {N : List Str} {names : List (Str × NameKind)} : (∀ p ∈ ownOf N names, N[p.2]? = some p.1) ∧ ∀ y ∈ names, y.2 = .local ∨ y.2 = .cell → y.1 ∈ (ownOf N names).map (·.1) ∨ y.1 ∉ N := by
  refine ⟨fun p hp => ?_, fun y hy hk => ?_⟩
  · obtain ⟨y, _, e⟩ := List.mem_filterMap.mp hp
    split at e
    · cases q : ixOf y.1 N with
      | none => rw [q] at e; cases e
      | some i => rw [q] at e; cases e; exact ixOf_get q
    · cases e
  · cases q : ixOf y.1 N with
    | none => exact .inr (ixOf_none q)
    | some i =>
      refine .inl (List.mem_map.mpr ⟨(y.1, i), List.mem_filterMap.mpr ⟨y, hy, ?_⟩, rfl⟩)
      have z : (decide (y.2 = .local) || decide (y.2 = .cell)) = true := by
        rcases hk with hk | hk <;> rw [hk] <;> rfl
      rw [if_pos z, q]; rfl
theorem blk_ok (C : CtxOk κ O G c X W) {scope : Scope} (h : blkOk c scope = true) : BlkOk X.N X.env.scope scope (ownOf c.N scope.names) := by
  unfold blkOk at h
  simp only [Bool.and_eq_true, decide_eq_true_eq, List.all_eq_true, Bool.or_eq_true, Bool.not_eq_true', decide_eq_false_iff_not] at h
  obtain ⟨⟨h1, h2⟩, h3⟩ := h
  rw [C.n]
  refine ⟨h1, h2, ownOf_get.1, fun y hy hf => ?_, ownOf_get.2⟩
  rcases h3 y hy with (z | z) | z
  · exact absurd hf z
  · exact C.cf _ (.inl z)
  · exact C.cf _ (.inr z)
theorem tIfs_ok {ifs : List Expr} (K : OkAt κ r c X W) (h : tIfs r c ifs = some mt) : PTs X ifs (tT κ W mt) := by
  unfold tIfs at h
  split at h
  next => cases h; exact sts_nil
  next e => exact sts_one (K.t _ _ h)
  next => cases h
structure LcParts (κ : Nat → Addr) (c : Cc) (X : Cx) (W : WX) (elt tg iter : Expr) (ifs : List Expr) (scope : Scope) (m : ME) : Prop where
  ex : ∃ mi is g mt me, m = mLc mi g mt me ((ownOf c.N scope.names).map (·.2)) ∧ PI X tg iter (tI κ W mi) ∧ BlkOk X.N X.env.scope scope (ownOf c.N scope.names) ∧ (∀ i ∈ is, i ∈ (ownOf c.N scope.names).map (·.2)) ∧
    (∀ (s : Shared) (H : Hp) (C : Addr) (cl : List (Str × Addr)) (fp : List Addr), PG (X.blk s H scope (compEnvC scope cl C X.env) fp) tg (tG κ is g)) ∧ (∀ (s : Shared) (H : Hp) (C : Addr) (cl : List (Str × Addr)) (fp : List Addr), PTs (X.blk s H scope (compEnvC scope cl C X.env) fp) ifs (tT κ noW mt)) ∧
    (∀ (s : Shared) (H : Hp) (C : Addr) (cl : List (Str × Addr)) (fp : List Addr), PE (X.blk s H scope (compEnvC scope cl C X.env) fp) elt (tE κ noW me)) ∧ ∀ x, foldedSetIterable iter X.env x = pure x
theorem eLc_ok (C : CtxOk κ O G c X W) (K : OkAt κ r c X W) (R : Ok κ O G r) {elt : Expr} {gens : List Comprehension} {scope : Scope} (h : eLc r c elt gens scope = some m) : ∃ tg iter ifs, gens = [⟨tg, iter, ifs, 0⟩] ∧ LcParts κ c X W elt tg iter ifs scope m := by
  unfold eLc at h
  split at h
  next tg iter ifs a =>
    split at h
    next mi is g mt me e1 e2 e3 e4 =>
      split at h
      next z =>
        cases h
        simp only [Bool.and_eq_true, decide_eq_true_eq, Bool.not_eq_true', List.all_eq_true] at z
        obtain ⟨⟨⟨z1, z2⟩, z3⟩, z4⟩ := z
        subst z1
        exact ⟨tg, iter, ifs, rfl, mi, is, g, mt, me, rfl, K.i _ _ _ e1, blk_ok C z2, z4, fun s H Ca cl fp => tgS_ok (C.blk s H Ca cl fp) e2, fun s H Ca cl fp => tIfs_ok (R _ _ _ (C.blk s H Ca cl fp)) e3, fun s H Ca cl fp => (R _ _ _ (C.blk s H Ca cl fp)).e _ _ e4, not_set_it z3⟩
      next => cases h
    next => cases h
  next => cases h
theorem eLc_pe (C : CtxOk κ O G c X W) (K : OkAt κ r c X W) (R : Ok κ O G r) {elt : Expr} {gens : List Comprehension} {scope : Scope} (h : eLc r c elt gens scope = some m) : PE X (.ListComp elt gens scope pos) (tE κ W m) := by
  obtain ⟨tg, iter, ifs, rfl, mi, is, g, mt, me, rfl, h1, h2, h3, h4, h5, h6, h7⟩ := eLc_ok C K R h
  exact s_lc C.calm C.nd h1 h2 h3 h4 h5 h6 h7
theorem eS_ok (C : CtxOk κ O G c X W) (K : OkAt κ r c X W) (R : Ok κ O G r) (h : eS O G r c e = some m) : PE X e (tE κ W m) := by
  cases e with
  | Name x p => exact eName_ok C h
  | Constant k j p =>
    have h : (conD k).map mC = some m := h
    cases q : conD k with
    | none => rw [q] at h; cases h
    | some d => rw [q] at h; cases h; exact eCon_ok q
  | BinOp a op b p => exact eBin_ok K h
  | UnaryOp op a p => exact eUn_ok K h
  | Compare a ops bs p => exact (eCmp_ok C K h).1
  | BoolOp op vs p => exact K.v _ _ _ _ h
  | IfExp t a b p => exact eIf_ok K h
  | Tuple es k p => exact eDisp_ok K h
  | List es p => exact eDisp_ok' K h
  | Dict ks vs p => exact eDict_ok K h
  | Subscript a b p => exact eSub_ok K h
  | Call f args kw p => exact eCall_ok C K h
  | ListComp elt gens scope p => exact eLc_pe C K R h
  | _ => cases h
theorem truth_of (K : OkAt κ r c X W) (h : (r.e c e).map mTru = some mt) (he : ∀ whole, isTrue e X.env whole = (do let v ← whole; standAt e.pos; holding [v] (truthy v))) : PT X e (tT κ W mt) := by
  cases q : r.e c e with
  | none => rw [q] at h; cases h
  | some m => rw [q] at h; cases h; exact s_tru (K.e _ _ q) he
theorem tS_ok (C : CtxOk κ O G c X W) (K : OkAt κ r c X W) (h : tS' r c e = some mt) : PT X e (tT κ W mt) := by
  cases e with
  | UnaryOp op a p =>
    cases op with
    | Not =>
      have h : (r.t c a).map mNot = some mt := h
      cases q : r.t c a with
      | none => rw [q] at h; cases h
      | some m => rw [q] at h; cases h; exact s_not (K.t _ _ q)
    | _ => cases h
  | BoolOp op vs p => exact (K.w _ _ _ _ h).pt
  | Compare a ops bs p =>
    have h : (eCmp r c a ops bs).map mBl = some mt := h
    cases q : eCmp r c a ops bs with
    | none => rw [q] at h; cases h
    | some m => rw [q] at h; cases h; exact (eCmp_ok C K q).2
  | Name x p => exact truth_of K h fun _ => rfl
  | Call f args kw p => exact truth_of K h fun _ => rfl
  | Subscript a b p => exact truth_of K h fun _ => rfl
  | Constant k j p => exact truth_of K h fun _ => rfl
  | ListComp elt gens scope p => exact truth_of K h fun _ => rfl
  | Attribute o nm p => exact truth_of K h fun _ => rfl
  | _ => cases h
theorem aS_ok (K : OkAt κ r c X W) (h : aS r c es = some ms) : PA X es (tA κ W ms) ∧ LenA es.length ms := by
  unfold aS at h
  split at h
  next => cases h; exact ⟨s_nil, lenA_nil⟩
  next e es =>
    split at h
    next m ms e1 e2 =>
      by_cases z : plainE e = true
      · rw [if_pos z] at h; cases h
        exact ⟨s_cons (K.e _ _ e1) (K.a _ _ e2).1 (starEach_plain z), lenA_cons (K.a _ _ e2).2⟩
      · rw [if_neg z] at h; cases h
    next => cases h
theorem wS_ok (K : OkAt κ r c X W) {op : BoolOp} (h : wS r op c es = some mt) : PW X (.BoolOp op es pos) (tT κ W mt) := by
  unfold wS at h
  split at h
  next => cases h
  next a =>
    cases op
    · exact s_and1 (K.t _ _ h)
    · exact s_or1 (K.t _ _ h)
  next a b rest =>
    split at h
    next ta tb e1 e2 =>
      cases op
      · cases h; exact s_and (K.t _ _ e1) (K.w _ _ _ _ e2)
      · cases h; exact s_or (K.t _ _ e1) (K.w _ _ _ _ e2)
    next => cases h
theorem vS_ok (K : OkAt κ r c X W) {op : BoolOp} (h : vS r op c es = some m) : PE X (.BoolOp op es pos) (tE κ W m) := by
  unfold vS at h
  split at h
  next => cases h
  next a => exact s_vone (K.e _ _ h)
  next a b rest =>
    split at h
    next ta tb e1 e2 =>
      cases op
      · cases h; exact s_vand (K.e _ _ e1) (K.v _ _ _ _ e2)
      · cases h; exact s_vor (K.e _ _ e1) (K.v _ _ _ _ e2)
    next => cases h
theorem iVal_ok (K : OkAt κ r c X W) {mi : MI} {tg : Expr} (h : (r.e c e).map mItV = some mi) : PI X tg e (tI κ W mi) := by
  cases q : r.e c e with
  | none => rw [q] at h; cases h
  | some m => rw [q] at h; cases h; exact si_val (K.e _ _ q)
theorem iS_ok (C : CtxOk κ O G c X W) (K : OkAt κ r c X W) {mi : MI} {tg : Expr} (h : iS G r c e = some mi) : PI X tg e (tI κ W mi) := by
  unfold iS at h
  split at h
  next x p args pos =>
    split at h
    next z =>
      rw [Bool.and_eq_true] at z
      have hx : x = "range" := of_decide_eq_true z.1
      subst hx
      have z2 := z.2
      unfold isBlt at z2
      split at z2
      next e1 =>
        obtain ⟨g1, _, g3⟩ := gvOf_ok C e1
        unfold iRng at h
        split at h
        next a =>
          by_cases y : plainE a = true
          · rw [if_pos y] at h
            cases q : r.a c [a] with
            | none => rw [q] at h; cases h
            | some ms => rw [q] at h; cases h; exact si_rng1 g1 g3 (K.a _ _ q).1 (starEach_plain y)
          · rw [if_neg y] at h; cases h
        next a b =>
          by_cases y : (plainE a && plainE b) = true
          · rw [if_pos y] at h
            rw [Bool.and_eq_true] at y
            cases q : r.a c [a, b] with
            | none => rw [q] at h; cases h
            | some ms =>
              rw [q] at h; cases h
              exact si_rng2 g1 g3 (K.a _ _ q).1 (by rw [starEach_plain y.1, starEach_plain y.2]; rfl) (starEach_plain y.2)
          · rw [if_neg y] at h; cases h
        next => cases h
      next => cases z2
    next => exact iVal_ok K h
  next => exact iVal_ok K h
theorem cf_ok : ∀ n, Ok κ O G (cf O G n)
  | 0 => fun c X W C => ⟨(fun _ _ h => by cases h), (fun _ _ h => by cases h), (fun _ _ h => by cases h), (fun _ _ _ _ h => by cases h), (fun _ _ _ _ h => by cases h), (fun _ _ _ h => by cases h)⟩
  | n + 1 => fun c X W C =>
    have R := cf_ok n
    have K := R c X W C
    ⟨fun _ _ h => eS_ok C K R h, fun _ _ h => tS_ok C K h, fun _ _ h => aS_ok K h, fun _ _ _ _ h => wS_ok K h, fun _ _ _ _ h => vS_ok K h, fun _ _ _ h => iS_ok C K h⟩
end
end JM

namespace JM
open PySem PySem.Spec L2
open PyProof.Rows (envOfC AllBare IntsAre)

/-! ### statements -/
/-- a, b = value -/
def mAsgT (g : MG) (a : ME) : MS := fun ρ => liftE (a ρ) fun r ρ1 => match r.frz ρ1 with
  | some (d, ρ2) => match g d ρ2 with
    | some ρ3 => .nx ρ3
    | none => .bad
  | none => .bad
def isComp : Expr → Bool
  | .ListComp _ _ _ _ => true
  | .SetComp _ _ _ _ => true
  | .DictComp _ _ _ _ _ => true
  | _ => false
def isTup : Expr → Bool
  | .Tuple _ _ _ => true
  | _ => false
section
variable {κ : Nat → Addr} {W : WX} {X : Cx} {e tg : Expr} {m mi : ME} {g : MG} {is : List Nat} {pos : Pos}
theorem ss_asgT {es : List Expr} {k : Nat} {p : Pos} (he : PE X e (tE κ W m)) (hg : PG X (.Tuple es k p) (tG κ is g)) (ht : isTup e = false) : PS X (.Assign [.Tuple es k p] e pos) (tS κ W (mAsgT g m)) := by
  refine PS.imp (ps_asg he hg ?_ ?_ rfl) ?_
  · cases e <;> rfl
  · cases e <;> first | rfl | cases ht
  · rintro E σ H ⟨F, ρ, en, q⟩
    refine ⟨F, ρ, en, q.lift fun r F1 H1 ρ1 _ s1 e1 p1 v rv => ?_⟩
    cases hz : r.frz ρ1 with
    | none => rw [hz] at p1; exact p1.elim
    | some z =>
      obtain ⟨d, ρ2⟩ := z
      rw [hz] at p1
      cases hg : g d ρ2 with
      | none => simp only [hg] at p1; exact p1.elim
      | some ρ3 =>
        simp only [hg] at p1
        obtain ⟨F2, s2, e2, rp, _⟩ := freeze s1 e1 rv hz
        exact ⟨F2, ρ2, d, e2, rp, ρ3, hg, fun σ' _ s3 e3 => p1 F2 σ' H1 (s2.trans s3) e3⟩
theorem ss_store {i : Nat} {x : Str} {ix : Expr} {px p2 : Pos} (hN : X.N[i]? = some x) (hv : Vis X.env.scope x) (n1 : (x == ("__debug__" : Str)) = false) (n2 : (x == ("__classdict__" : Str)) = false) (hi : PE X ix (tE κ W mi)) (he : PE X e (tE κ W m)) (hp : plainIx ix = true) :
    PS X (.Assign [.Subscript (.Name x px) ix p2] e pos) (tS κ W (mStore i mi m)) := by
  refine PS.imp (ps_asg he (pg_sub (pe_var hN hv n1 n2) hi set_list ?_) ?_ ?_ rfl) fun E σ H h => store_post h
  · intro v
    cases ix with
    | Slice lo hi st p => cases st with
      | none => cases hp
      | some s => rfl
    | _ => rfl
  · cases e <;> rfl
  · cases e <;> rfl
theorem swaps_no {x : Str} {p : Pos} {line : Nat} {env : Env} (h : isComp e = false) : swapsWith e (some (.Name x p)) line env = pure false := by
  cases e <;> first | rfl | cases h
theorem swaps_none {line : Nat} {env : Env} (h : isComp e = false) : swapsWith e none line env = pure false := by
  cases e <;> first | rfl | cases h
end

structure SF where
  s : Cc → Stmt → Option MS
  ss : Cc → List Stmt → Option MS
/-- a, b = x, y with the stores from the right -/
def parOk (c : Cc) (x y : Str) (px py : Pos) (a b : Expr) : Bool := decide (c.names.lookup x = some .local) && decide (c.names.lookup y = some .local) && (py.line == px.line) && !decide (x = y) && plainE a && plainE b &&
  !([a, b].all (foldedForSure 8)) && !([a, b].all (constantsAlone 8))
section
variable (r : CF) (s : SF)
def sName (c : Cc) (x : Str) (e : Expr) : Option MS := match e with
  | .SetComp _ _ _ _ => none
  | .DictComp _ _ _ _ _ => none
  | e => match putIx c x, r.e c e with
    | some i, some m => some (mAsg i m)
    | _, _ => none
def sTup (c : Cc) (es : List Expr) (k : Nat) (p : Pos) (e : Expr) : Option MS := if isTup e then none else match tgS c (.Tuple es k p), r.e c e with
  | some (_, g), some m => some (mAsgT g m)
  | _, _ => none
def sPar (c : Cc) (x y : Str) (px py : Pos) (a b : Expr) : Option MS := match ixOf x c.N, ixOf y c.N, r.a c [a, b] with
  | some i, some j, some ms => if parOk c x y px py a b then some (mPar i j ms) else none
  | _, _, _ => none
def sTups (c : Cc) (es : List Expr) (k : Nat) (p : Pos) (e : Expr) : Option MS := match e with
  | .Tuple vs _ _ => match es, vs with
    | [.Name x px, .Name y py], [a, b] => sPar r c x y px py a b
    | _, _ => none
  | e => sTup r c es k p e
def sStore (c : Cc) (x : Str) (ix e : Expr) : Option MS := match seeIx c x, r.e c ix, r.e c e with
  | some i, some mi, some m => if plainIx ix then some (mStore i mi m) else none
  | _, _, _ => none
def sAsg (c : Cc) (ts : List Expr) (e : Expr) : Option MS := match ts with
  | [.Name x _] => sName r c x e
  | [.Tuple es k p] => sTups r c es k p e
  | [.Subscript (.Name x _) ix _] => sStore r c x ix e
  | _ => none
def sFor (c : Cc) (tg iter : Expr) (body : List Stmt) : Option MS := match tgS c tg, r.i c iter, s.ss c body with
  | some (_, g), some mi, some mb => if isSet iter then none else some (mFor mi g mb)
  | _, _, _ => none
def sIf (c : Cc) (t : Expr) (a b : List Stmt) : Option MS := match r.t c t, s.ss c a, s.ss c b with
  | some mt, some ma, some mb => some (mIfS mt ma mb)
  | _, _, _ => none
def sWhile (fuel : Nat) (c : Cc) (t : Expr) (a : List Stmt) : Option MS := match r.t c t, s.ss c a with
  | some mt, some ma => some (mWhile mt ma fuel)
  | _, _ => none
def sExpr (c : Cc) (e : Expr) : Option MS := match e with
  | .Constant (.str _) _ _ => some mSkip
  | e => if isComp e then none else (r.e c e).map mDrop
def stS (fuel : Nat) (c : Cc) : Stmt → Option MS
  | .Assign ts e _ => sAsg r c ts e
  | .Return (some e) _ => (r.e c e).map mRet
  | .Return none _ => some mRetN
  | .If t a b _ => sIf r s c t a b
  | .For tg iter body els _ => match els with
    | [] => sFor r s c tg iter body
    | _ => none
  | .While t body els _ => match els with
    | [] => sWhile r s fuel c t body
    | _ => none
  | .Expr e _ => sExpr r c e
  | .Pass _ => some mSkip
  | .Break _ => some mBreak
  | .Continue _ => some mCont
  | _ => none
def ssS (c : Cc) : List Stmt → Option MS
  | [] => some mSkip
  | [st] => s.s c st
  | st :: st' :: rest => match s.s c st, s.ss c (st' :: rest) with
    | some a, some b => some (mSeq a b)
    | _, _ => none
end
def sf (r : CF) (fuel : Nat) : Nat → SF
  | 0 => ⟨fun _ _ => none, fun _ _ => none⟩
  | n + 1 => ⟨stS r (sf r fuel n) fuel, ssS (sf r fuel n)⟩

section
variable (κ : Nat → Addr) (O : Nat → List SV → FRes) (G : List (Str × GV))
structure CtxS (c : Cc) (X : Cx) (W : WX) : Prop where
  C : CtxOk κ O G c X W
  hp : PassesOwn (model X.prog X.w) X.A X.env X.xe
  bk : X.env.blockKind = .function
  same : X.env.scope.names = c.names
end
structure OkS (κ : Nat → Addr) (z : SF) (c : Cc) (X : Cx) (W : WX) : Prop where
  s : ∀ st m, z.s c st = some m → PS X st (tS κ W m)
  ss : ∀ st m, z.ss c st = some m → PSs X st (tS κ W m)
section
variable {κ : Nat → Addr} {O : Nat → List SV → FRes} {G : List (Str × GV)} {r : CF} {s : SF} {c : Cc} {X : Cx} {W : WX} {e : Expr} {es : List Expr} {m : MS} {pos : Pos}
theorem sName_ok (S : CtxS κ O G c X W) (K : OkAt κ r c X W) (R : ∀ elt gens scope lp m, r.e c (.ListComp elt gens scope lp) = some m → ∃ tg iter ifs, gens = [⟨tg, iter, ifs, 0⟩] ∧ LcParts κ c X W elt tg iter ifs scope m) {x : Str} {p : Pos} (h : sName r c x e = some m) : PS X (.Assign [.Name x p] e pos) (tS κ W m) := by
  have key : isComp e = false → (match putIx c x, r.e c e with
    | some i, some m => some (mAsg i m)
    | _, _ => none) = some m → PS X (.Assign [.Name x p] e pos) (tS κ W m) := by
    intro hc h
    split at h
    next i me e1 e2 =>
      cases h
      obtain ⟨k1, k2, k3⟩ := putIx_ok S.C e1
      exact ss_set S.C.nd k1 k2 (K.e _ _ e2) (swaps_no hc) k3
    next => cases h
  cases e with
  | SetComp _ _ _ _ => cases h
  | DictComp _ _ _ _ _ => cases h
  | ListComp elt gens scope lp =>
    have h : (match putIx c x, r.e c (.ListComp elt gens scope lp) with
    | some i, some m => some (mAsg i m)
    | _, _ => none) = some m := h
    split at h
    next i me e1 e2 =>
      cases h
      obtain ⟨k1, k2, k3⟩ := putIx_ok S.C e1
      have sw : swapsWith (.ListComp elt gens scope lp) (some (.Name x p)) pos.line X.env = pure (X.env.blockKind == .function && X.env.kindOf x == some .local && p.line == lp.line && !(scope.names.any fun (n, k) => n == x && (k == .local || k == .cell))) := rfl
      cases hb : (X.env.blockKind == .function && X.env.kindOf x == some .local && p.line == lp.line && !(scope.names.any fun (n, k) => n == x && (k == .local || k == .cell))) with
      | false =>
        rw [hb] at sw
        exact ss_set S.C.nd k1 k2 (K.e _ _ e2) sw k3
      | true =>
        rw [hb] at sw
        simp only [Bool.and_eq_true] at hb
        have hl : X.env.scope.names.lookup x = some .local := eq_of_beq hb.1.1.2
        obtain ⟨tg, iter, ifs, rfl, mi, is, g, mt, me', rfl, h1, h2, h3, h4, h5, h6, h7⟩ := R _ _ _ _ _ e2
        exact ss_setLc S.C.calm S.C.nd k1 hl sw h1 h2 h3 h4 h5 h6 h7
    next => cases h
  | _ => exact key rfl h
theorem par_swap {x y : Str} {px py pt : Pos} {a b : Expr} {kt k2 : Nat} {pt2 : Pos} (S : CtxS κ O G c X W) (h : parOk c x y px py a b = true) :
    swappedStores [.Tuple [.Name x px, .Name y py] kt pt] (.Tuple [a, b] k2 pt2) X.env = pure (some [x, y]) := by
  unfold parOk at h
  simp only [Bool.and_eq_true, decide_eq_true_eq, Bool.not_eq_true', decide_eq_false_iff_not] at h
  obtain ⟨⟨⟨⟨⟨⟨⟨h1, h2⟩, h3⟩, h4⟩, h5⟩, h6⟩, h7⟩, h8⟩ := h
  have l1 : X.env.kindOf x = some .local := by
    show X.env.scope.names.lookup x = _
    rw [S.same]; exact h1
  have l2 : X.env.kindOf y = some .local := by
    show X.env.scope.names.lookup y = _
    rw [S.same]; exact h2
  have ed : ([x, y] : List Str).eraseDups.length = 2 := by
    have : (y == x) = false := beq_eq_false_iff_ne.mpr fun z => h4 z.symm
    simp [List.eraseDups_cons, this]
  unfold swappedStores
  simp only [S.bk, l1, l2, h7, h8, List.length_cons, List.length_nil, List.head?_cons, Option.map_some, Option.getD_some, List.filterMap_cons, List.filterMap_nil]
  have h3' : py.line = (Expr.Name x px).pos.line := eq_of_beq h3
  have h3'' : px.line = (Expr.Name x px).pos.line := rfl
  simp [h3', h3'', ed]
  rintro (q | q)
  · cases a <;> first | (cases q; done) | (cases h5; done)
  · cases b <;> first | (cases q; done) | (cases h6; done)
theorem sPar_ok (S : CtxS κ O G c X W) (K : OkAt κ r c X W) {x y : Str} {px py pt : Pos} {a b : Expr} {kt k2 : Nat} {pt2 : Pos} (h : sPar r c x y px py a b = some m) : PS X (.Assign [.Tuple [.Name x px, .Name y py] kt pt] (.Tuple [a, b] k2 pt2) pos) (tS κ W m) := by
  unfold sPar at h
  split at h
  next i j ms e1 e2 e3 =>
    split at h
    next z =>
      cases h
      have sw := par_swap (pt := pt) (kt := kt) (k2 := k2) (pt2 := pt2) S z
      unfold parOk at z
      simp only [Bool.and_eq_true, decide_eq_true_eq, Bool.not_eq_true', decide_eq_false_iff_not] at z
      obtain ⟨⟨⟨⟨⟨⟨⟨h1, h2⟩, h3⟩, h4⟩, h5⟩, h6⟩, h7⟩, h8⟩ := z
      have i1 : X.N[i]? = some x := by rw [S.C.n]; exact ixOf_get e1
      have j1 : X.N[j]? = some y := by rw [S.C.n]; exact ixOf_get e2
      have hij : i ≠ j := by
        rintro rfl
        rw [i1] at j1
        exact h4 (Option.some.inj j1)
      exact PS.imp (ps_par S.C.calm S.C.nd i1 j1 hij (S.C.lcl _ h1) (S.C.lcl _ h2) (K.a _ _ e3).1 sw rfl) fun E σ H q => par_post hij q
    next => cases h
  next => cases h
theorem sTup_ok (S : CtxS κ O G c X W) (K : OkAt κ r c X W) {k : Nat} {p : Pos} (h : sTup r c es k p e = some m) : PS X (.Assign [.Tuple es k p] e pos) (tS κ W m) := by
  unfold sTup at h
  by_cases z : isTup e = true
  · rw [if_pos z] at h; cases h
  · rw [if_neg z] at h
    split at h
    next is g me e1 e2 =>
      cases h
      exact ss_asgT (K.e _ _ e2) (tgS_ok S.C e1) (by simpa using z)
    next => cases h
theorem sAsg_ok (S : CtxS κ O G c X W) (K : OkAt κ r c X W) (R : ∀ elt gens scope lp m, r.e c (.ListComp elt gens scope lp) = some m → ∃ tg iter ifs, gens = [⟨tg, iter, ifs, 0⟩] ∧ LcParts κ c X W elt tg iter ifs scope m) {ts : List Expr} (h : sAsg r c ts e = some m) : PS X (.Assign ts e pos) (tS κ W m) := by
  unfold sAsg at h
  split at h
  next x p => exact sName_ok S K R h
  next es k p =>
    unfold sTups at h
    split at h
    next vs kv pv =>
      split at h
      next x px y py a b => exact sPar_ok S K h
      next => cases h
    next => exact sTup_ok S K h
  next x p ix p2 =>
    unfold sStore at h
    split at h
    next i mi me e1 e2 e3 =>
      by_cases z : plainIx ix = true
      · rw [if_pos z] at h; cases h
        obtain ⟨k1, k2, k3⟩ := seeIx_ok S.C e1
        obtain ⟨n1, n2, _⟩ := okName_of k3
        exact ss_store k1 k2 n1 n2 (K.e _ _ e2) (K.e _ _ e3) z
      · rw [if_neg z] at h; cases h
    next => cases h
  next => cases h
theorem stS_ok (S : CtxS κ O G c X W) (K : OkAt κ r c X W) (R : ∀ elt gens scope lp m, r.e c (.ListComp elt gens scope lp) = some m → ∃ tg iter ifs, gens = [⟨tg, iter, ifs, 0⟩] ∧ LcParts κ c X W elt tg iter ifs scope m) {s : SF} {fuel : Nat} (T : OkS κ s c X W) {st : Stmt} (h : stS r s fuel c st = some m) : PS X st (tS κ W m) := by
  have map_some : ∀ {o : Option ME} {f : ME → MS}, o.map f = some m → ∃ a, o = some a ∧ f a = m := fun {o f} q => by
    cases o with
    | none => cases q
    | some a => cases q; exact ⟨a, rfl, rfl⟩
  unfold stS at h
  split at h
  next ts e p => exact sAsg_ok S K R h
  next e p => obtain ⟨me, e1, rfl⟩ := map_some h; exact ss_ret (K.e _ _ e1)
  next p => cases h; exact ss_retN
  next t a b p =>
    unfold sIf at h
    split at h
    next mt ma mb e1 e2 e3 => cases h; exact ss_if (K.t _ _ e1) (T.ss _ _ e2) (T.ss _ _ e3)
    next => cases h
  next tg iter body els p =>
    split at h
    next =>
      unfold sFor at h
      split at h
      next is g mi mb e1 e2 e3 =>
        by_cases z : isSet iter = true
        · rw [if_pos z] at h; cases h
        · rw [if_neg z] at h; cases h
          exact ss_for S.hp S.C.calm (K.i _ _ _ e2) (tgS_ok S.C e1) (T.ss _ _ e3) (not_set_it (by simpa using z))
      next => cases h
    next => cases h
  next t body els p =>
    split at h
    next =>
      unfold sWhile at h
      split at h
      next mt ma e1 e2 => cases h; exact ss_while S.hp (K.t _ _ e1) (T.ss _ _ e2)
      next => cases h
    next => cases h
  next e p =>
    unfold sExpr at h
    split at h
    next x j p2 => cases h; exact ss_doc
    next =>
      by_cases z : isComp e = true
      · rw [if_pos z] at h; cases h
      · rw [if_neg z] at h
        obtain ⟨me, e1, rfl⟩ := map_some h
        exact ss_expr (K.e _ _ e1) (swaps_none (by simpa using z))
  next => cases h; exact ss_pass
  next => cases h; exact ss_break
  next => cases h; exact ss_cont
  next => cases h
theorem ssS_ok {s : SF} (T : OkS κ s c X W) {sts : List Stmt} (h : ssS s c sts = some m) : PSs X sts (tS κ W m) := by
  unfold ssS at h
  split at h
  next => cases h; exact ss_nil
  next st => exact ss_one (T.s _ _ h)
  next st st' rest =>
    split at h
    next a b e1 e2 => cases h; exact ss_cons (T.s _ _ e1) (T.ss _ _ e2)
    next => cases h
theorem sf_ok (S : CtxS κ O G c X W) (nE fuel : Nat) : ∀ n, OkS κ (sf (cf O G (nE + 1)) fuel n) c X W
  | 0 => ⟨(fun _ _ h => by cases h), (fun _ _ h => by cases h)⟩
  | n + 1 =>
    have T := sf_ok S nE fuel n
    have K := cf_ok (κ := κ) (O := O) (G := G) (nE + 1) c X W S.C
    ⟨fun _ _ h => stS_ok S K (fun elt gens scope lp m q => eLc_ok S.C (cf_ok nE c X W S.C) (cf_ok nE) q) T h, fun _ _ h => ssS_ok T h⟩

/-! ### defs -/
/-- the body of a def of the text -/
def cDef (O : Nat → List SV → FRes) (G : List (Str × GV)) (N : List Str) (st : Stmt) : Option MS := (sf (cf O G 60) 1000000 60).ss ⟨N, (defScope st).names⟩ (defBody st)
/-- the defs, each with its parameters, its names, its mirror -/
def mkO (B : (Nat → List SV → FRes) → Nat → Nat × Nat × MS) : Nat → Nat → List SV → FRes
  | 0, _, _ => .bad
  | n + 1, i, svs => runF (B (mkO B n) i).1 (B (mkO B n) i).2.1 (B (mkO B n) i).2.2 svs
end
section
variable {P : Program} {w : World} {K : PySem.W.Frag} {mg : Str → Option Value} {base : Heap}
/-- what is known of a def of the text -/
structure DefAt (K : PySem.W.Frag) (mg : Str → Option Value) (name qual : Str) (st : Stmt) (N ps : List Str) (f : Addr) (fd : FuncData) : Prop where
  mg : mg name = some (.ref f)
  fn : Fun K name qual st f fd
  bd : Binds K fd ps []
  sc : FnScope N ps (defScope st)
/-- the names of the module -/
def GlobAt (K : PySem.W.Frag) (mg : Str → Option Value) (fns : Nat → Option Addr) (x : Str) : GV → Prop
  | .fn i => ∃ f, fns i = some f ∧ mg x = some (.ref f) ∧ PySem.W.keepIn K (.ref f) = true
  | .int v => ∃ t, mg x = some (.int v t)
  | .str v => ∃ t, mg x = some (.str v t)
  | .blt => mg x = none
theorem ctx_of {κ : Nat → Addr} {O : Nat → List SV → FRes} {G : List (Str × GV)} {qual : Str} {scope : Scope} {N ps : List Str} {f : Addr} {cd : Value} {A : Around} {outer : List Env} {s : Shared} {H : Hp} {E : XK} {k : Nat} (S : FnScope N ps scope)
    (hr : Room k (A.deeper (envOfC qual scope s.heap.objs.size f cd))) (hg : A.guards = some []) (gl : ∀ x gv, G.lookup x = some gv → GvOk κ O (cxOf (L2.CX P w) P w K mg base N qual scope f cd A outer s H E) x gv) :
    CtxS κ O G ⟨N, scope.names⟩ (cxOf (L2.CX P w) P w K mg base N qual scope f cd A outer s H E) (fun c o _ H => E c o H) := by
  refine ⟨⟨rfl, S.nd, fun x h => ?_, fun x h => ?_, fun x h => h, fun x h => h, fun x h => h, rfl, hr.units, hg, takes_of rfl rfl rfl rfl, gl⟩, passes_of rfl, ?_, rfl⟩
  · cases q : scope.names.lookup x with
    | none => rw [show (Cc.mk N scope.names).names.lookup x = none from q] at h; cases h
    | some k =>
      rw [show (Cc.mk N scope.names).names.lookup x = some k from q] at h
      cases k <;> first | exact .inl q | exact .inr (.inl q) | exact .inr (.inr q) | cases h
  · cases q : scope.names.lookup x with
    | none => rw [show (Cc.mk N scope.names).names.lookup x = none from q] at h; cases h
    | some k =>
      rw [show (Cc.mk N scope.names).names.lookup x = some k from q] at h
      cases k <;> first | exact ⟨.inl q, .inl rfl⟩ | exact ⟨.inr q, .inl rfl⟩ | cases h
  · show (if scope.kind.isAnnotationScope then ScopeKind.function else scope.kind) = .function
    rw [S.kind]; rfl
end
end JM

namespace JM
open PySem PySem.Spec L2
open PyProof.Rows (envOfC AllBare IntsAre)

/-- a def of the text: its name, its qualified name, its statement, its names, its parameters -/
structure Def1 where
  name : Str
  qual : Str
  st : Stmt
  N : List Str
  ps : List Str
section
variable {P : Program} {w : World} {K : PySem.W.Frag} {mg : Str → Option Value} {base : Heap} {κ : Nat → Addr} {defs : List Def1} {G : List (Str × GV)} {B : (Nat → List SV → FRes) → Nat → Nat × Nat × MS}
def GmOk (defs : List Def1) (mg : Str → Option Value) (x : Str) : GV → Prop
  | .fn i => ∃ d, defs[i]? = some d ∧ d.name = x
  | .int v => ∃ t, mg x = some (.int v t)
  | .str v => ∃ t, mg x = some (.str v t)
  | .blt => mg x = none
theorem all_fn (hd : ∀ (i : Nat) (d : Def1), defs[i]? = some d → ∃ f fd, DefAt K mg d.name d.qual d.st d.N d.ps f fd)
    (hB : ∀ (O : Nat → List SV → FRes) (i : Nat) (d : Def1), defs[i]? = some d → (B O i).1 = d.ps.length ∧ (B O i).2.1 = d.N.length ∧ cDef O G d.N d.st = some (B O i).2.2)
    (hG : ∀ x gv, G.lookup x = some gv → GmOk defs mg x gv) : ∀ (n i : Nat) (d : Def1) (f : Addr) (fd : FuncData), defs[i]? = some d → DefAt K mg d.name d.qual d.st d.N d.ps f fd → FnG P w K mg base n f fd d.ps (spO κ (mkO B n i))
  | 0, i, d, f, fd, hi, D => ⟨(fun vs H Q E ⟨F, svs, e, h⟩ => False.elim h), fun A o s H args us vs Q E hr hg he hb hv ⟨F, svs, e, h⟩ => False.elim h⟩
  | n + 1, i, d, f, fd, hi, D => by
    obtain ⟨b1, b2, b3⟩ := hB (mkO B n) i d hi
    have pl : d.ps.length ≤ d.N.length := by
      have := congrArg List.length D.sc.pre
      rw [List.length_take] at this
      omega
    have key := fnO (κ := κ) (P := P) (w := w) (mg := mg) (base := base) (k := n) (np := d.ps.length) (n := d.N.length) (b := (B (mkO B n) i).2.2) D.fn D.sc rfl rfl pl fun cdv A outer s H E hr hg => ?_
    · have e : mkO B (n + 1) i = runF d.ps.length d.N.length (B (mkO B n) i).2.2 := by
        funext svs
        show runF (B (mkO B n) i).1 (B (mkO B n) i).2.1 (B (mkO B n) i).2.2 svs = _
        rw [b1, b2]
      rw [e]
      exact key
    · have S := ctx_of (P := P) (w := w) (K := K) (mg := mg) (base := base) (κ := κ) (O := mkO B n) (G := G) (outer := outer) (s := s) (H := H) (E := E) D.sc hr hg fun x gv q => by
        have g := hG x gv q
        cases gv with
        | fn j =>
          obtain ⟨d', h1, h2⟩ := g
          obtain ⟨f', fd', D'⟩ := hd j d' h1
          exact ⟨f', fd', d'.ps, n, by rw [← h2]; exact D'.mg, D'.fn.kp, D'.bd, all_fn hd hB hG n j d' f' fd' h1 D', hr⟩
        | int v => exact g
        | str v => exact g
        | blt => exact g
      exact (sf_ok S 59 1000000 60).ss _ _ b3
end

/-! ### the script -/
/-- no list stands in the written part -/
def noScript (K : PySem.W.Frag) : Bool := K.all fun p => match p.2.data with
  | .seq _ _ => match p.2.cls with
    | .type n => n != "list"
    | _ => true
  | _ => true
theorem mem_frag {a : Addr} {o : Obj} : ∀ {K : PySem.W.Frag}, K.lookup a = some o → ∃ b, (b, o) ∈ K
  | [], h => by simp at h
  | (c, u) :: K, h => by
    rw [List.lookup_cons] at h
    split at h
    · cases h; exact ⟨c, List.mem_cons_self⟩
    · obtain ⟨b, hb⟩ := mem_frag h
      exact ⟨b, List.mem_cons_of_mem _ hb⟩
theorem noScript_at {K : PySem.W.Frag} {a : Addr} {vs : Array Value} {n : Nat} (h : noScript K = true) (e : K.lookup a = some { cls := .type "list", data := .seq vs n }) : False := by
  obtain ⟨b, hm⟩ := mem_frag e
  have := List.all_eq_true.mp h _ hm
  exact absurd this (by simp)
theorem sp_script {κ : Nat → Addr} {f : List SV → FRes} {ns : List Int} {a : Addr} {H : Hp} {E : XK} (hr : Rd H a (.lst (ns.map V.int))) (h : ∃ outs, f [.pu (.lst (ns.map .int))] = .ret (.pu (.bl true)) outs) : spO κ f [.ref a] H (fun v _ => v = .bl true) E := by
  obtain ⟨outs, h⟩ := h
  refine ⟨fun b => b = a, [.pu (.lst (ns.map .int))], ⟨rfl, ?_, fun i sv e => ?_, fun i j p l d p' l' d' b q1 => ?_⟩, ?_⟩
  · rintro b rfl
    rcases hr with hr | ⟨o, hr⟩ <;> rw [hr] <;> simp
  · cases i with
    | zero =>
      have e : sv = .pu (.lst (ns.map .int)) := by simpa using e.symm
      subst e
      exact ⟨some (.ref a), rfl, .ref a, rfl, a, _, rfl, rfl, hr, reps_ints ns⟩
    | succ i => simp at e
  · cases i with
    | zero => simp at q1
    | succ i => simp at q1
  · rw [h]
    intro v F' H' s e rv
    exact rv
theorem walkJ {κ : Nat → Addr} {l : PySem.W.OpenLaw} {q : Program} {loose : List Str} {XP : (Str → Option Value) → Heap → Prop} {YP : World → Heap → Prop} {d : DefRec} {K : Params → PySem.W.Frag} {k : Nat} {f : List SV → FRes} {x : Str} (hn : l.most = some 63) (hdf : d.params.defaults = []) (hr : Room k callerA)
    (hY : ∀ (w : World) (h : Heap), YP w h → (K w.params).In h)
    (law : ∀ ns : List Int, ns.length ≤ 63 → (∀ z ∈ ns, Builtin.Int.intBits z ≤ 1048576) → ∃ outs, f [.pu (.lst (ns.map .int))] = .ret (.pu (.bl true)) outs)
    (F : ∀ (w : World) (mg : Str → Option Value) (fa : Addr) (h : Heap), (K w.params).In h → h.Ns mainGlobals mg → mg d.name = some (.ref fa) →
      noScript (K w.params) = true ∧ ∃ fd : FuncData, (∀ (s : Shared) (u : Value), BindsTo s fd ⟨[u], []⟩ [(x, u)]) ∧ ∀ base : Heap, (K w.params).In base → base.Ns mainGlobals mg → FnG l.prog w (K w.params) mg base k fa fd [x] (spO κ f)) :
    PySem.W.WalkO q loose XP YP l.row.toRowW d [] (fun f vs => PySem.call f vs) := by
  refine Att.attach_callB hn hdf fun w s0 s1 mg mb fa o pm cd doc a vs ns G Y ho hd hcd hmg hobj hints hlen hbits hg => ?_
  have KX := hY w _ Y
  obtain ⟨hs, fd, hb, hF⟩ := F w mg fa _ KX G.T.g hmg
  refine law_callG KX G.T.g G.T.b G.T.builtins G.T.nolimit hg hobj hints (Nat.le_trans hlen (by decide)) hr ?_ hF hb fun H _ hS => sp_script hS (law ns hlen hbits)
  cases e : (K w.params).lookup a with
  | none => rfl
  | some o =>
    have e2 := KX a o e
    rw [hobj] at e2
    cases e2
    exact (noScript_at hs e).elim
end JM
namespace JM
open PySem PySem.Spec L2
def GmAll (defs : List Def1) (mg : Str → Option Value) : List (Str × GV) → Prop
  | [] => True
  | p :: r => GmOk defs mg p.1 p.2 ∧ GmAll defs mg r
theorem gm_all {defs : List Def1} {mg : Str → Option Value} : ∀ {G : List (Str × GV)}, GmAll defs mg G → ∀ x gv, G.lookup x = some gv → GmOk defs mg x gv
  | [], _, x, gv, h => by simp at h
  | (y, g) :: G, ⟨h1, h2⟩, x, gv, h => by
    rw [List.lookup_cons] at h
    split at h
    · rename_i e
      cases h
      rw [eq_of_beq e]
      exact h1
    · exact gm_all h2 x gv h
end JM

namespace JM
open PySem PySem.Spec L2

/-! ### what the mirrors do: rules to evaluate with -/
def varR (ρ : Slots) (i : Nat) : Option SV → Res RV
  | some (.pu d) => .ok (.pu d) ρ
  | some (.pf d) => .ok (.pu d) ρ
  | some (.ob _ _ _) => .ok (.nm i) ρ
  | _ => .bad
def oR {α β : Type} (o : Option α) (f : α → Res β) : Res β := match o with
  | some d => f d
  | none => .bad
def oS {α : Type} (o : Option α) (f : α → SRes) : SRes := match o with
  | some d => f d
  | none => .bad
def oO {α β : Type} (o : Option α) (f : α → Option β) : Option β := match o with
  | some d => f d
  | none => none
def blR (ρ : Slots) : Option D → Res Bool
  | some (.bl b) => .ok b ρ
  | _ => .bad
def chR (f : Bool → Res RV) : Op → Res RV
  | .val (.bl k) => f k
  | _ => .bad
def sqR (b : MS) : SRes → SRes
  | .nx ρ1 => b ρ1
  | r => r
def intS (f : Int → SRes) : Option D → SRes
  | some (.int k) => f k
  | _ => .bad
def intR {α : Type} (f : Int → Res α) : Option D → Res α
  | some (.int k) => f k
  | _ => .bad
def obS (f : Bool → Bool → D → SRes) : Option SV → SRes
  | some (.ob p l d) => f p l d
  | _ => .bad
def lstS (f : List D → SRes) : D → SRes
  | .lst xs => f xs
  | _ => .bad
def strR {α : Type} (f : Str → Res α) : RV → Res α
  | .pu (.str z) => f z
  | _ => .bad
def fR (f : RV → List SV → Res RV) (g : Exc → List SV → Res RV) : FRes → Res RV
  | .ret r outs => f r outs
  | .rai x outs => g x outs
  | .bad => .bad
def lcR (f : List D → Slots → Res RV) : Res (List D) → Res RV
  | .ok a ρ => f a ρ
  | _ => .bad
def two (f : RV → RV → Slots → SRes) : Option (List RV × Slots) → SRes
  | some ([r, r'], ρ) => f r r' ρ
  | _ => .bad
def rng1 (ρ : Slots) : Option (List D) → Res (List D)
  | some [.int j] => if -(2 ^ 62) ≤ j ∧ j < 2 ^ 62 then .ok ((List.range j.toNat).map fun i => .int (i : Nat)) ρ else .bad
  | _ => .bad
def loopR (f : Slots → SRes) : SRes → SRes
  | .nx ρ2 => f ρ2
  | .ct ρ2 => f ρ2
  | .br ρ2 => .nx ρ2
  | r => r
section
variable {α β : Type} {ρ ρ1 : Slots} {d e : D} {i j : Int} {r r' : RV} {a b : ME} {k : Nat} {p l : Bool}
theorem bind_ok {x : α} {f : α → Slots → Res β} : (Res.ok x ρ).bind f = f x ρ := by kernel_rfl
theorem bind_bad {f : α → Slots → Res β} : (Res.bad : Res α).bind f = .bad := by kernel_rfl
theorem bind_rai {x : Exc} {f : α → Slots → Res β} : (Res.rai x ρ : Res α).bind f = .rai x ρ := by kernel_rfl
theorem lift_ok {x : α} {f : α → Slots → SRes} : liftE (.ok x ρ) f = f x ρ := by kernel_rfl
theorem lift_rai {x : Exc} {f : α → Slots → SRes} : liftE (.rai x ρ : Res α) f = .rai x ρ := by kernel_rfl
theorem opRes_val : opRes (.val d) ρ = .ok (.pu d) ρ := by kernel_rfl
theorem opRes_new : opRes (.new d) ρ = .ok (.fr d) ρ := by kernel_rfl
theorem oR_some {x : α} {f : α → Res β} : oR (some x) f = f x := by kernel_rfl
theorem oS_some {x : α} {f : α → SRes} : oS (some x) f = f x := by kernel_rfl
theorem oO_some {x : α} {f : α → Option β} : oO (some x) f = f x := by kernel_rfl
theorem with1_eq {g : D → Res RV} : with1 ρ r g = oR (r.cont ρ) g := by kernel_rfl
theorem cont_pu : RV.cont ρ (.pu d) = some d := by kernel_rfl
theorem cont_fr : RV.cont ρ (.fr d) = some d := by kernel_rfl
theorem cont_nm : RV.cont ρ (.nm k) = (ρ[k]?).bind SV.cont := by kernel_rfl
theorem sv_pu : SV.cont (.pu d) = some d := by kernel_rfl
theorem sv_pf : SV.cont (.pf d) = some d := by kernel_rfl
theorem sv_ob : SV.cont (.ob p l d) = some d := by kernel_rfl
theorem obind_some {x : α} {f : α → Option β} : (some x).bind f = f x := by kernel_rfl
theorem mVar_eq : mVar k ρ = varR ρ k (ρ[k]?) := by kernel_rfl
theorem varR_pu : varR ρ k (some (.pu d)) = .ok (.pu d) ρ := by kernel_rfl
theorem varR_pf : varR ρ k (some (.pf d)) = .ok (.pu d) ρ := by kernel_rfl
theorem varR_ob : varR ρ k (some (.ob p l d)) = .ok (.nm k) ρ := by kernel_rfl
theorem mC_eq : mC d ρ = .ok (.pu d) ρ := by kernel_rfl
theorem mBin_eq {g : D → D → Op} : mBin g a b ρ = (a ρ).bind fun r ρ1 => (b ρ1).bind fun r' ρ2 => oR (r.cont ρ2) fun d => oR (r'.cont ρ2) fun e => opRes (g d e) ρ2 := by kernel_rfl
theorem mUn_eq {g : D → Op} : mUn g a ρ = (a ρ).bind fun r ρ1 => oR (r.cont ρ1) fun d => opRes (g d) ρ1 := by kernel_rfl
theorem mBl_eq : mBl a ρ = (a ρ).bind fun r ρ1 => blR ρ1 (r.cont ρ1) := by kernel_rfl
theorem blR_bl {b : Bool} : blR ρ (some (.bl b)) = .ok b ρ := by kernel_rfl
theorem mBi_eq {g : List D → Op} {as : MA} : mBi g as ρ = (as ρ).bind fun rs ρ1 => oR (conts ρ1 rs) fun ds => opRes (g ds) ρ1 := by kernel_rfl
theorem mCons_eq {as : MA} : mCons a as ρ = (a ρ).bind fun r ρ1 => (as ρ1).bind fun rs ρ2 => .ok (r :: rs) ρ2 := by kernel_rfl
theorem mNil_eq : mNil ρ = .ok [] ρ := by kernel_rfl
theorem conts_nil : conts ρ [] = some [] := by kernel_rfl
theorem conts_cons {rs : List RV} : conts ρ (r :: rs) = oO (r.cont ρ) fun d => oO (conts ρ rs) fun ds => some (d :: ds) := by kernel_rfl
theorem mSeq_eq {a b : MS} : mSeq a b ρ = sqR b (a ρ) := by kernel_rfl
theorem sqR_nx {b : MS} : sqR b (.nx ρ) = b ρ := by kernel_rfl
theorem sqR_rt {b : MS} : sqR b (.rt r ρ) = .rt r ρ := by kernel_rfl
theorem sqR_br {b : MS} : sqR b (.br ρ) = .br ρ := by kernel_rfl
theorem sqR_ct {b : MS} : sqR b (.ct ρ) = .ct ρ := by kernel_rfl
theorem sqR_rai {b : MS} {x : Exc} : sqR b (.rai x ρ) = .rai x ρ := by kernel_rfl
theorem mIfS_eq {c : MT} {a b : MS} : mIfS c a b ρ = liftE (c ρ) fun k ρ1 => if k = true then a ρ1 else b ρ1 := by kernel_rfl
theorem mRet_eq : mRet a ρ = liftE (a ρ) fun r ρ1 => .rt r ρ1 := by kernel_rfl
theorem mDrop_eq : mDrop a ρ = liftE (a ρ) fun _ ρ1 => .nx ρ1 := by kernel_rfl
theorem mSkip_eq : mSkip ρ = .nx ρ := by kernel_rfl
theorem mBreak_eq : mBreak ρ = .br ρ := by kernel_rfl
theorem mCont_eq : mCont ρ = .ct ρ := by kernel_rfl
theorem mAsg_eq : mAsg k a ρ = liftE (a ρ) fun r ρ1 => oS (frz1 false ρ1 r) fun p => oS (put1 p.2 k p.1) fun ρ3 => .nx ρ3 := by kernel_rfl
theorem frz1_pu {b : Bool} : frz1 b ρ (.pu d) = some (.pu d, ρ) := by kernel_rfl
theorem frz1_fr : frz1 false ρ (.fr d) = some (.fr d, ρ) := by kernel_rfl
theorem frz1_frT : frz1 true ρ (.fr d) = some (.pu d, ρ) := by kernel_rfl
theorem frz1_nm {b : Bool} : frz1 b ρ (.nm k) = oO (RV.frz ρ (.nm k)) fun p => some (.pu p.1, p.2) := by kernel_rfl
theorem frz_pu : RV.frz ρ (.pu d) = some (d, ρ) := by kernel_rfl
theorem frz_fr : RV.frz ρ (.fr d) = some (d, ρ) := by kernel_rfl
def frzN (ρ : Slots) (k : Nat) : Option SV → Option (D × Slots)
  | some (.pu d) => some (d, ρ)
  | some (.pf d) => some (d, ρ)
  | some (.ob false false d) => some (d, ρ.set k (.pu d))
  | some (.ob true false d) => some (d, ρ.set k (.pf d))
  | _ => none
theorem frz_nm : RV.frz ρ (.nm k) = frzN ρ k (ρ[k]?) := by kernel_rfl
theorem frzN_pu : frzN ρ k (some (.pu d)) = some (d, ρ) := by kernel_rfl
theorem frzN_pf : frzN ρ k (some (.pf d)) = some (d, ρ) := by kernel_rfl
theorem frzN_ob : frzN ρ k (some (.ob false false d)) = some (d, ρ.set k (.pu d)) := by kernel_rfl
theorem frzN_par : frzN ρ k (some (.ob true false d)) = some (d, ρ.set k (.pf d)) := by kernel_rfl
theorem put1_eq : put1 ρ k r = oO (ρ[k]?) fun sv => if (sv.isPar || r.isNm) = true then none else some (ρ.set k r.sv) := by kernel_rfl
theorem par_un : SV.isPar .un = false := by kernel_rfl
theorem par_pu : SV.isPar (.pu d) = false := by kernel_rfl
theorem par_obF : SV.isPar (.ob false l d) = false := by kernel_rfl
theorem par_obT : SV.isPar (.ob true l d) = true := by kernel_rfl
theorem par_pf : SV.isPar (.pf d) = true := by kernel_rfl
theorem nm_pu : RV.isNm (.pu d) = false := by kernel_rfl
theorem nm_fr : RV.isNm (.fr d) = false := by kernel_rfl
theorem rsv_pu : RV.sv (.pu d) = .pu d := by kernel_rfl
theorem rsv_fr : RV.sv (.fr d) = .ob false false d := by kernel_rfl
theorem mStore_eq : mStore k a b ρ = liftE (b ρ) fun r ρ1 => obS (fun _ _ _ => liftE (a ρ1) fun ri ρ2 => intS (fun m => oS (RV.frz ρ2 r) fun q => obS (fun p l c => lstS (fun xs => oS (ixN xs.length m) fun j => .nx (q.2.set k (.ob p l (.lst (xs.set j q.1))))) c) (q.2[k]?)) (ri.cont ρ2)) (ρ1[k]?) := by kernel_rfl
theorem obS_ob {f : Bool → Bool → D → SRes} : obS f (some (.ob p l d)) = f p l d := by kernel_rfl
theorem intS_int {f : Int → SRes} : intS f (some (.int i)) = f i := by kernel_rfl
theorem lstS_lst {f : List D → SRes} {xs : List D} : lstS f (.lst xs) = f xs := by kernel_rfl
theorem mAnd_eq {a b : MT} : mAnd a b ρ = (a ρ).bind fun c ρ1 => if c = true then b ρ1 else .ok false ρ1 := by kernel_rfl
theorem mOr_eq {a b : MT} : mOr a b ρ = (a ρ).bind fun c ρ1 => if c = true then .ok true ρ1 else b ρ1 := by kernel_rfl
theorem mNot_eq {a : MT} : mNot a ρ = (a ρ).bind fun c ρ1 => .ok (!c) ρ1 := by kernel_rfl
theorem mYes_eq : mYes ρ = .ok true ρ := by kernel_rfl
theorem mAndV_eq : mAndV a b ρ = (mBl a ρ).bind fun c ρ1 => if c = true then b ρ1 else .ok (.pu (.bl false)) ρ1 := by kernel_rfl
theorem mOrV_eq : mOrV a b ρ = (mBl a ρ).bind fun c ρ1 => if c = true then .ok (.pu (.bl true)) ρ1 else b ρ1 := by kernel_rfl
theorem mNotV_eq : mNotV a ρ = (mBl a ρ).bind fun c ρ1 => .ok (.pu (.bl (!c))) ρ1 := by kernel_rfl
theorem mIf_eq {c : MT} : mIf c a b ρ = (c ρ).bind fun k ρ1 => if k = true then a ρ1 else b ρ1 := by kernel_rfl
theorem mTru_eq : mTru a ρ = (a ρ).bind fun r ρ1 => oR (r.cont ρ1) fun d => oR (truD d) fun b => .ok b ρ1 := by kernel_rfl
theorem tru_bl {b : Bool} : truD (.bl b) = some b := by kernel_rfl
theorem tru_lst {xs : List D} : truD (.lst xs) = some (!xs.isEmpty) := by kernel_rfl
theorem mChain_eq {g g' : D → D → Op} {c : ME} : mChain g g' a b c ρ = (a ρ).bind fun r ρ1 => (b ρ1).bind fun r' ρ2 => oR (r.cont ρ2) fun d => oR (r'.cont ρ2) fun e => chR (fun k => if k = true then (c ρ2).bind fun r2 ρ3 => oR (r'.cont ρ3) fun e' => oR (r2.cont ρ3) fun f => opRes (g' e' f) ρ3 else .ok (.pu (.bl false)) ρ2) (g d e) := by kernel_rfl
theorem chR_bl {f : Bool → Res RV} {k : Bool} : chR f (.val (.bl k)) = f k := by kernel_rfl
theorem mDisp_eq {t : Bool} {as : MA} : mDisp t as ρ = (as ρ).bind fun rs ρ1 => oR (frzA ρ1 rs) fun p => if t then .ok (.pu (.tup p.1)) p.2 else .ok (.fr (.lst p.1)) p.2 := by kernel_rfl
theorem mDct_eq {ks : List Key} {ms : MA} : mDct ks ms ρ = (ms ρ).bind fun rs ρ1 => oR (frzA ρ1 rs) fun p => .ok (.fr (.dct (ks.map keyD) p.1)) p.2 := by kernel_rfl
theorem mAll_nil : mAll [] = mNil := by kernel_rfl
theorem mAll_cons {ms : List ME} : mAll (a :: ms) = mCons a (mAll ms) := by kernel_rfl
theorem keyD_inr {x : Str} : keyD (.inr x) = .str x := by kernel_rfl
theorem keyD_inl {i : Int} : keyD (.inl i) = .int i := by kernel_rfl
theorem frzA_eq {rs : List RV} : frzA ρ rs = oO (frzs true ρ rs) fun p => oO (puD p.1) fun ds => some (ds, p.2) := by kernel_rfl
theorem frzs_nil {b : Bool} : frzs b ρ [] = some ([], ρ) := by kernel_rfl
theorem frzs_cons {b : Bool} {rs : List RV} : frzs b ρ (r :: rs) = oO (frz1 b ρ r) fun p => oO (frzs b p.2 rs) fun q => some (p.1 :: q.1, q.2) := by kernel_rfl
theorem puD_nil : puD [] = some [] := by kernel_rfl
theorem puD_cons {rs : List RV} : puD (.pu d :: rs) = oO (puD rs) fun ds => some (d :: ds) := by kernel_rfl
theorem mCall_eq {f : List SV → FRes} {ms : MA} : mCall f ms ρ = (ms ρ).bind fun rs ρ1 => if (nms rs).Nodup then oR (argSVs ρ1 rs) fun svs => fR (fun r outs => oR (retV rs outs r) fun r' => .ok r' (back ρ1 rs outs)) (fun x outs => .rai x (back ρ1 rs outs)) (f svs) else .bad := by kernel_rfl
theorem fR_ret {f : RV → List SV → Res RV} {g : Exc → List SV → Res RV} {os : List SV} : fR f g (.ret r os) = f r os := by kernel_rfl
theorem fR_rai {f : RV → List SV → Res RV} {g : Exc → List SV → Res RV} {os : List SV} {x : Exc} : fR f g (.rai x os) = g x os := by kernel_rfl
theorem argSVs_nil : argSVs ρ [] = some [] := by kernel_rfl
theorem argSVs_cons {rs : List RV} : argSVs ρ (r :: rs) = oO (argSV ρ r) fun sv => oO (argSVs ρ rs) fun svs => some (sv :: svs) := by kernel_rfl
def argN : Option SV → Option SV
  | some (.pu d) => some (.pu d)
  | some (.pf d) => some (.pu d)
  | some (.ob _ false d) => some (.ob true false d)
  | _ => none
theorem arg_pu : argSV ρ (.pu d) = some (.pu d) := by kernel_rfl
theorem arg_fr : argSV ρ (.fr d) = some (.ob true false d) := by kernel_rfl
theorem arg_nm : argSV ρ (.nm k) = argN (ρ[k]?) := by kernel_rfl
theorem argN_pu : argN (some (.pu d)) = some (.pu d) := by kernel_rfl
theorem argN_pf : argN (some (.pf d)) = some (.pu d) := by kernel_rfl
theorem argN_ob : argN (some (.ob p false d)) = some (.ob true false d) := by kernel_rfl
theorem nms_nil : nms [] = [] := by kernel_rfl
theorem nms_nm {rs : List RV} : nms (.nm k :: rs) = k :: nms rs := by kernel_rfl
theorem nms_pu {rs : List RV} : nms (.pu d :: rs) = nms rs := by kernel_rfl
theorem nms_fr {rs : List RV} : nms (.fr d :: rs) = nms rs := by kernel_rfl
theorem retV_pu {rs : List RV} {os : List SV} : retV rs os (.pu d) = some (.pu d) := by kernel_rfl
theorem retV_fr {rs : List RV} {os : List SV} : retV rs os (.fr d) = some (.fr d) := by kernel_rfl
theorem retF_pu {os : List SV} : retF os ρ (.pu d) = some (.pu d) := by kernel_rfl
theorem retF_fr {os : List SV} : retF os ρ (.fr d) = some (.fr d) := by kernel_rfl
def retN (k : Nat) (svs : List SV) : Option SV → Option RV
  | some (.pu d) => some (.pu d)
  | some (.pf d) => some (.pu d)
  | some (.ob false _ d) => some (.fr d)
  | some (.ob true _ _) => match svs[k]? with
    | some sv => if sv.isPar then some (.nm k) else none
    | none => none
  | _ => none
theorem retF_nm {os : List SV} : retF os ρ (.nm k) = retN k os (ρ[k]?) := by kernel_rfl
theorem retN_pu {os : List SV} : retN k os (some (.pu d)) = some (.pu d) := by kernel_rfl
theorem retN_pf {os : List SV} : retN k os (some (.pf d)) = some (.pu d) := by kernel_rfl
theorem retN_ob {os : List SV} : retN k os (some (.ob false l d)) = some (.fr d) := by kernel_rfl
theorem back_eq {rs : List RV} {os : List SV} : back ρ rs os = backFrom rs os 0 ρ := by kernel_rfl
theorem backFrom_nil {rs : List RV} {os : List SV} : backFrom rs os k [] = [] := by kernel_rfl
theorem backFrom_cons {rs : List RV} {os : List SV} {sv : SV} : backFrom rs os k (sv :: ρ) = backSV rs os k sv :: backFrom rs os (k + 1) ρ := by kernel_rfl
theorem backSV_un {rs : List RV} {os : List SV} : backSV rs os k .un = .un := by kernel_rfl
theorem backSV_pu {rs : List RV} {os : List SV} : backSV rs os k (.pu d) = .pu d := by kernel_rfl
theorem backSV_pf {rs : List RV} {os : List SV} : backSV rs os k (.pf d) = .pf d := by kernel_rfl
def backN (p l : Bool) (d : D) (os : List SV) : Option Nat → SV
  | some j => match os[j]? with
    | some (.ob _ _ d') => .ob p l d'
    | some (.pf d') => if p then .pf d' else .pu d'
    | _ => .un
  | none => .ob p l d
def backO (p l : Bool) : Option SV → SV
  | some (.ob _ _ d') => .ob p l d'
  | some (.pf d') => if p then .pf d' else .pu d'
  | _ => .un
theorem backSV_ob {rs : List RV} {os : List SV} : backSV rs os k (.ob p l d) = backN p l d os (nmAt k rs) := by kernel_rfl
theorem backN_none {os : List SV} : backN p l d os none = .ob p l d := by kernel_rfl
theorem backN_some {os : List SV} : backN p l d os (some k) = backO p l (os[k]?) := by kernel_rfl
theorem backO_ob {p' l' : Bool} : backO p l (some (.ob p' l' d)) = .ob p l d := by kernel_rfl
theorem backO_pf : backO p l (some (.pf d)) = if p then .pf d else .pu d := by kernel_rfl
theorem back_out {rs : List RV} {os : List SV} {sv : SV} (h : nmAt k rs = none) : backSV rs os k sv = sv := by
  cases sv with
  | ob p l d => rw [backSV_ob, h]; rfl
  | _ => rfl
theorem nmAt_nil : nmAt k [] = none := by kernel_rfl
theorem nmAt_nm {m : Nat} {rs : List RV} : nmAt k (.nm m :: rs) = if m = k then some 0 else (nmAt k rs).map (· + 1) := by kernel_rfl
theorem nmAt_pu {rs : List RV} : nmAt k (.pu d :: rs) = (nmAt k rs).map (· + 1) := by kernel_rfl
theorem nmAt_fr {rs : List RV} : nmAt k (.fr d :: rs) = (nmAt k rs).map (· + 1) := by kernel_rfl
theorem outs_nil : outsFrom ρ k [] = [] := by kernel_rfl
theorem outs_cons {a : SV} {as : List SV} : outsFrom ρ k (a :: as) = (if a.isPar then (ρ[k]?).getD a else a) :: outsFrom ρ (k + 1) as := by kernel_rfl
theorem okArg_pu : okArg (.pu d) = true := by kernel_rfl
theorem okArg_ob : okArg (.ob true false d) = true := by kernel_rfl
theorem mLc_eq {mi : MI} {g : MG} {t : MT} {vs : List Nat} : mLc mi g t a vs ρ = (mi ρ).bind fun ds ρ1 =>
  if noOb ρ1 vs = true then (if ds.length ≤ sizeLine then lcR (fun acc ρ2 => .ok (.fr (.lst acc)) (putBack ρ1 ρ2 vs)) (mLcLoop g t a vs ds [] (wipeS ρ1 vs)) else .bad) else .bad := by kernel_rfl
theorem lcR_ok {f : List D → Slots → Res RV} {ds : List D} : lcR f (.ok ds ρ) = f ds ρ := by kernel_rfl
theorem mItV_eq : mItV a ρ = (a ρ).bind fun r ρ1 => oR (RV.frz ρ1 r) fun p => oR (itemsOf p.1) fun ds => .ok ds p.2 := by kernel_rfl
theorem items_lst {ds : List D} : itemsOf (.lst ds) = some ds := by kernel_rfl
theorem items_tup {ds : List D} : itemsOf (.tup ds) = some ds := by kernel_rfl
theorem items_str {z : Str} : itemsOf (.str z) = some (z.cps.toList.map fun c => .str ⟨#[c]⟩) := by kernel_rfl
theorem mRng1_eq {as : MA} : mRng1 as ρ = (as ρ).bind fun rs ρ1 => rng1 ρ1 (conts ρ1 rs) := by kernel_rfl
theorem rng1_int : rng1 ρ (some [.int i]) = if -(2 ^ 62) ≤ i ∧ i < 2 ^ 62 then .ok ((List.range i.toNat).map fun i => .int (i : Nat)) ρ else .bad := by kernel_rfl
theorem mFor_eq {mi : MI} {g : MG} {b : MS} : mFor mi g b ρ = liftE (mi ρ) fun ds ρ1 => mLoop g b ds ρ1 := by kernel_rfl
theorem mLoop_nil {g : MG} {b : MS} : mLoop g b [] ρ = .nx ρ := by kernel_rfl
theorem mLoop_cons {g : MG} {b : MS} {ds : List D} : mLoop g b (d :: ds) ρ = oS (g d ρ) fun ρ1 => loopR (fun ρ2 => mLoop g b ds ρ2) (b ρ1) := by kernel_rfl
theorem loop_nx {f : Slots → SRes} : loopR f (.nx ρ) = f ρ := by kernel_rfl
theorem loop_ct {f : Slots → SRes} : loopR f (.ct ρ) = f ρ := by kernel_rfl
theorem loop_br {f : Slots → SRes} : loopR f (.br ρ) = .nx ρ := by kernel_rfl
theorem loop_rt {f : Slots → SRes} : loopR f (.rt r ρ) = .rt r ρ := by kernel_rfl
theorem gtN_eq : gtN k d ρ = put1 ρ k (.pu d) := by kernel_rfl
theorem mPar_eq {as : MA} {m : Nat} : mPar k m as ρ = liftE (as ρ) fun rs ρ1 => two (fun r r' ρ2 => oS (put1 ρ2 k r) fun ρ3 => oS (put1 ρ3 m r') fun ρ4 => .nx ρ4) (frzs false ρ1 rs) := by kernel_rfl
theorem two_eq {f : RV → RV → Slots → SRes} : two f (some ([r, r'], ρ)) = f r r' ρ := by kernel_rfl
theorem mMtS_eq {g : D → List D → Op} {as : MA} : mMtS g a as ρ = (a ρ).bind fun r ρ1 => strR (fun z => (as ρ1).bind fun rs ρ2 => oR (conts ρ2 rs) fun ds => opRes (g (.str z) ds) ρ2) r := by kernel_rfl
theorem strR_str {f : Str → Res α} {z : Str} : strR f (.pu (.str z)) = f z := by kernel_rfl
theorem mSl_eq {g : D → Option Int → Option Int → Op} {lo hi : MO} : mSl g a lo hi ρ = (a ρ).bind fun r ρ1 => (lo ρ1).bind fun l ρ2 => (hi ρ2).bind fun h ρ3 => oR (r.cont ρ3) fun d => opRes (g d l h) ρ3 := by kernel_rfl
theorem mNoPart_eq : mNoPart ρ = .ok none ρ := by kernel_rfl
theorem mPart_eq : mPart a ρ = (a ρ).bind fun r ρ1 => intR (fun i => .ok (some i) ρ1) (r.cont ρ1) := by kernel_rfl
theorem intR_int {f : Int → Res α} : intR f (some (.int i)) = f i := by kernel_rfl
def runR (svs : List SV) : SRes → FRes
  | .nx ρ => .ret (.pu .non) (outsFrom ρ 0 svs)
  | .rt r ρ => match retF svs ρ r with
    | some r' => .ret r' (outsFrom ρ 0 svs)
    | none => .bad
  | .rai x ρ => .rai x (outsFrom ρ 0 svs)
  | _ => .bad
def retR (outs : List SV) : Option RV → FRes
  | some r' => .ret r' outs
  | none => .bad
theorem runF_eq {np n : Nat} {b : MS} {svs : List SV} : runF np n b svs = if svs.length = np then (if svs.all okArg = true then runR svs (b (svs ++ List.replicate (n - np) .un)) else .bad) else .bad := by kernel_rfl
theorem runR_nx {svs : List SV} : runR svs (.nx ρ) = .ret (.pu .non) (outsFrom ρ 0 svs) := by kernel_rfl
theorem runR_rt {svs : List SV} : runR svs (.rt r ρ) = retR (outsFrom ρ 0 svs) (retF svs ρ r) := by kernel_rfl
theorem runR_rai {svs : List SV} {x : Exc} : runR svs (.rai x ρ) = .rai x (outsFrom ρ 0 svs) := by kernel_rfl
theorem retR_some {os : List SV} : retR os (some r) = .ret r os := by kernel_rfl
theorem noOb_nil : noOb ρ [] = true := by kernel_rfl
def obB : Option SV → Bool
  | some (.ob _ _ _) => false
  | some _ => true
  | none => false
theorem noOb_cons {vs : List Nat} : noOb ρ (k :: vs) = (obB (ρ[k]?) && noOb ρ vs) := by kernel_rfl
theorem obB_un : obB (some .un) = true := by kernel_rfl
theorem obB_pu : obB (some (.pu d)) = true := by kernel_rfl
theorem wipeS_nil : wipeS ρ [] = ρ := by kernel_rfl
theorem wipeS_cons {vs : List Nat} : wipeS ρ (k :: vs) = (wipeS ρ vs).set k .un := by kernel_rfl
theorem putBack_nil : putBack ρ ρ1 [] = ρ1 := by kernel_rfl
def pbR (q : Slots) (k : Nat) : Option SV → Slots
  | some sv => q.set k sv
  | none => q
theorem putBack_cons {vs : List Nat} : putBack ρ ρ1 (k :: vs) = pbR (putBack ρ ρ1 vs) k (ρ[k]?) := by kernel_rfl
theorem pbR_some {sv : SV} : pbR ρ k (some sv) = ρ.set k sv := by kernel_rfl
theorem lcl_nil {g : MG} {t : MT} {vs : List Nat} {acc : List D} : mLcLoop g t a vs [] acc ρ = .ok acc ρ := by kernel_rfl
def lcT (f : Bool → Slots → Res (List D)) : Res Bool → Res (List D)
  | .ok b ρ => f b ρ
  | _ => .bad
def lcE (f : RV → Slots → Res (List D)) : Res RV → Res (List D)
  | .ok b ρ => f b ρ
  | _ => .bad
theorem lcT_ok {f : Bool → Slots → Res (List D)} {b : Bool} : lcT f (.ok b ρ) = f b ρ := by kernel_rfl
theorem lcE_ok {f : RV → Slots → Res (List D)} : lcE f (.ok r ρ) = f r ρ := by kernel_rfl
theorem lcl_cons {g : MG} {t : MT} {vs : List Nat} {acc ds : List D} : mLcLoop g t a vs (d :: ds) acc ρ = oR (g d ρ) fun ρ1 => lcT (fun b ρ2 => if b = true then lcE (fun r ρ3 => oR (RV.frz ρ3 r) fun p => mLcLoop g t a vs ds (acc ++ [p.1]) (wipeS p.2 vs)) (a ρ2) else mLcLoop g t a vs ds acc (wipeS ρ2 vs)) (t ρ1) := by
  conv => lhs; unfold mLcLoop
  cases g d ρ with
  | none => kernel_rfl
  | some ρ1 =>
    cases h : t ρ1 with
    | ok b ρ2 =>
      cases b with
      | false => simp only [h]; simp only [oR, h, lcT]; kernel_rfl
      | true => simp only [h]; simp only [oR, h, lcT]; kernel_rfl
    | rai x ρ2 => simp only [h]; simp only [oR, h, lcT]
    | bad => simp only [h]; simp only [oR, h, lcT]

/-! ints -/
theorem log2_lt9000 {i : Int} (h0 : 0 < i) (h : i < 2 ^ 64) : i.natAbs.log2 < 9000 := by
  have z : i.natAbs ≠ 0 := by omega
  rw [Nat.log2_lt z]
  have : i.natAbs < 2 ^ 64 := by omega
  exact Nat.lt_of_lt_of_le this (Nat.pow_le_pow_right (by decide) (by decide))
theorem add_int : gAdd (.int i) (.int j) = .val (.int (i + j)) := rfl
theorem sub_int : gSub (.int i) (.int j) = .val (.int (i - j)) := rfl
theorem neg_int : gNeg (.int i) = .val (.int (-i)) := rfl
theorem mod_int (h : 0 < j) : gMod (.int i) (.int j) = .val (.int (i % j)) := by
  show (if 0 < j then _ else _) = _
  rw [if_pos h]
theorem div_int (h : 0 < j) (h2 : j < 2 ^ 64) : gDiv (.int i) (.int j) = .val (.int (i / j)) := by
  show (if 0 < j ∧ j.natAbs.log2 < 9000 then _ else _) = _
  rw [if_pos ⟨h, log2_lt9000 h h2⟩]
/-- of moderate size -/
def Mid (i : Int) : Prop := i.natAbs < 2 ^ 400000
theorem mid_log {i : Int} (h : Mid i) : i.natAbs.log2 < 400000 := by
  by_cases z : i.natAbs = 0
  · rw [z]; decide
  · exact (Nat.log2_lt z).mpr h
theorem mul_int (hi : Mid i) (hj : Mid j) : gMulA (.int i) (.int j) = .val (.int (i * j)) := by
  show (if i.natAbs.log2 + j.natAbs.log2 < 1000000 then _ else _) = _
  have h1 := mid_log hi
  have h2 := mid_log hj
  rw [if_pos (by omega)]
theorem Mid.small {n : Nat} (h : i.natAbs < 2 ^ n) (hn : n ≤ 400000) : Mid i := Nat.lt_of_lt_of_le h (Nat.pow_le_pow_right (by decide) hn)
theorem mid64 (h1 : -(2 ^ 64) < i) (h2 : i < 2 ^ 64) : Mid i := .small (n := 64) (by omega) (by decide)
theorem lt_int : gLt (.int i) (.int j) = .val (.bl (decide (i < j))) := by
  unfold gLt
  rw [if_pos ⟨rfl, rfl, rfl, (fun z => by cases z), by show min 0 0 ≤ 60; decide⟩]
  show Op.val (.bl (PySem.W.dataLt (.int i) (.int j))) = _
  rw [PySem.W.dataLt_int]
theorem le_int : gLe (.int i) (.int j) = .val (.bl (decide (i ≤ j))) := by
  unfold gLe
  rw [if_pos ⟨rfl, rfl, rfl, (fun z => by cases z), by show min 0 0 ≤ 60; decide⟩]
  show Op.val (.bl (!PySem.W.dataLt (.int j) (.int i))) = _
  rw [PySem.W.dataLt_int]
  congr 2
  by_cases h : i ≤ j
  · rw [decide_eq_true h, decide_eq_false (by omega)]; rfl
  · rw [decide_eq_false h, decide_eq_true (by omega)]; rfl
theorem gt_int : gGt (.int i) (.int j) = .val (.bl (decide (j < i))) := lt_int
theorem ge_int : gGe (.int i) (.int j) = .val (.bl (decide (j ≤ i))) := le_int
theorem eq_int : gEq false (.int i) (.int j) = .val (.bl (decide (i = j))) := by
  unfold gEq
  rw [if_pos ⟨rfl, rfl, by show min 0 0 ≤ 60; decide⟩]
  show Op.val (.bl (i == j)) = _
  congr 2
theorem ne_int : gEq true (.int i) (.int j) = .val (.bl (!decide (i = j))) := by
  unfold gEq
  rw [if_pos ⟨rfl, rfl, by show min 0 0 ≤ 60; decide⟩]
  show Op.val (.bl (!(i == j))) = _
  congr 2
theorem ix_lst {xs : List D} (h : atI xs i = some d) : gIx (.lst xs) (.int i) = .val d := by
  show (match atI xs i with
    | some d => Op.val d
    | none => .bad) = _
  rw [h]
theorem ix_tup' {xs : List D} (h : atI xs i = some d) : gIx (.tup xs) (.int i) = .val d := by
  show (match atI xs i with
    | some d => Op.val d
    | none => .bad) = _
  rw [h]
theorem ix_str' {z : Str} {c : Nat} (hz : z.length ≤ sizeLine) (h : atI z.cps.toList i = some c) : gIx (.str z) (.int i) = .val (.str ⟨#[c]⟩) := by
  show (if z.length ≤ sizeLine then (match atI z.cps.toList i with
      | some c => Op.val (.str ⟨#[c]⟩)
      | none => .bad) else .bad) = _
  rw [if_pos hz, h]
theorem atI_of {xs : List α} {x : α} (h0 : 0 ≤ i) (h : xs[i.toNat]? = some x) : atI xs i = some x := by
  have hl := (List.getElem?_eq_some_iff.mp h).1
  unfold L2.atI ixN
  rw [if_pos h0, if_pos (by omega)]
  exact h
theorem len_lst {xs : List D} : gLen (.lst xs) = .val (.int xs.length) := rfl
theorem len_tup {xs : List D} : gLen (.tup xs) = .val (.int xs.length) := rfl
theorem len_str {z : Str} (h : z.length ≤ sizeLine) : gLen (.str z) = .val (.int z.length) := by
  show (if z.length ≤ sizeLine then _ else _) = _
  rw [if_pos h]
theorem un2_eq {g : D → D → Op} : un2 g d [e] = g d e := rfl
theorem un_eq {g : D → Op} : un g [d] = g d := rfl
theorem int_int : gInt (.int i) = .val (.int i) := rfl
theorem int_bl {b : Bool} : gInt (.bl b) = .val (.int (if b then 1 else 0)) := rfl
theorem abs_int : gAbs (.int i) = .val (.int i.natAbs) := rfl
theorem max_int : gMax [.int i, .int j] = .val (.int (max i j)) := rfl
theorem min_int : gMin [.int i, .int j] = .val (.int (min i j)) := rfl
/-! texts -/
theorem lt_str {x y : Str} : gLt (.str x) (.str y) = .val (.bl (decide (x.cps.toList < y.cps.toList))) := by
  unfold gLt
  rw [if_pos ⟨rfl, rfl, rfl, (fun z => by cases z), by show min 0 0 ≤ 60; decide⟩]
  show Op.val (.bl (PySem.W.dataLt (.str x) (.str y))) = _
  rw [PySem.W.dataLt_str]
theorem le_str {x y : Str} : gLe (.str x) (.str y) = .val (.bl (!decide (y.cps.toList < x.cps.toList))) := by
  unfold gLe
  rw [if_pos ⟨rfl, rfl, rfl, (fun z => by cases z), by show min 0 0 ≤ 60; decide⟩]
  show Op.val (.bl (!PySem.W.dataLt (.str y) (.str x))) = _
  rw [PySem.W.dataLt_str]
theorem le_sign {x y : Nat} : gLe (.str ⟨#[x]⟩) (.str ⟨#[y]⟩) = .val (.bl (decide (x ≤ y))) := by
  rw [le_str]
  congr 2
  by_cases h : x ≤ y
  · rw [decide_eq_true h, decide_eq_false]
    · rfl
    · show ¬ [y] < [x]
      rw [List.cons_lt_cons_iff]
      simp
      omega
  · rw [decide_eq_false h, decide_eq_true]
    · rfl
    · show [y] < [x]
      rw [List.cons_lt_cons_iff]
      simp
      omega
theorem in_sign {c : Nat} {z : Str} : gIn false (.str ⟨#[c]⟩) (.str z) = .val (.bl (decide (c ∈ z.cps.toList))) := by
  show Op.val (.bl (!(Builtin.Str.occurrences z ⟨#[c]⟩ 0 z.length 1).isEmpty)) = _
  rw [PySem.StrLaws.found_one]
theorem notin_sign {c : Nat} {z : Str} : gIn true (.str ⟨#[c]⟩) (.str z) = .val (.bl (!decide (c ∈ z.cps.toList))) := by
  show Op.val (.bl (!(!(Builtin.Str.occurrences z ⟨#[c]⟩ 0 z.length 1).isEmpty))) = _
  rw [PySem.StrLaws.found_one]
theorem add_str {x y : Str} (h : x.length + y.length ≤ sizeLine) : gAdd (.str x) (.str y) = .val (.str (x ++ y)) := by
  show (if x.length + y.length ≤ sizeLine then _ else _) = _
  rw [if_pos h]
theorem add_lst {x y : List D} (h : x.length + y.length ≤ sizeLine) : gAdd (.lst x) (.lst y) = .new (.lst (x ++ y)) := by
  show (if x.length + y.length ≤ sizeLine then _ else _) = _
  rw [if_pos h]
theorem sl_str' {z : Str} {lo hi : Option Int} (h : z.length ≤ sizeLine) : gSl (.str z) lo hi = .val (.str (cutS z lo hi)) := by
  show (if z.length ≤ sizeLine then _ else _) = _
  rw [if_pos h]
theorem eq_str {x y : Str} : gEq false (.str x) (.str y) = .val (.bl (decide (x = y))) := by
  unfold gEq
  rw [if_pos ⟨rfl, rfl, by show min 0 0 ≤ 60; decide⟩]
  show Op.val (.bl (PyData.eqv (.str x) (.str y))) = _
  by_cases h : x = y
  · subst h; simp [PyData.eqv]
  · simp [PyData.eqv, h]
theorem ne_str {x y : Str} : gEq true (.str x) (.str y) = .val (.bl (!decide (x = y))) := by
  unfold gEq
  rw [if_pos ⟨rfl, rfl, by show min 0 0 ≤ 60; decide⟩]
  show Op.val (.bl (!PyData.eqv (.str x) (.str y))) = _
  by_cases h : x = y
  · subst h; simp [PyData.eqv]
  · simp [PyData.eqv, h]
theorem repr_ok (h : d.noIns = true ∧ (d.flat = true ∨ d.noLst = true) ∧ d.py.showable = true ∧ d.py.depth ≤ 60 ∧ d.py.shown.length ≤ sizeLine) : gRepr d = .val (.str d.py.shown) := by
  unfold gRepr
  rw [if_pos h]
end
end JM

/-! the defs of law_k00_integers_and_names: their mirrors, printed by gen.py -/
namespace Jk00
open PySem PySem.Spec L2 JM

def top (i : Nat) : Stmt := PySem.Challenge.pw_joinmore_k00_integers_and_names.main.body.getD i (.Pass ⟨0, 0, 0, 0⟩)
/-- is_integer(value): 0 value -/
def b0 (O : Nat → List SV → FRes) : MS :=
    (mRet (mAndV (mUn (gIsi "int") (mVar 0)) (mAndV (mNotV (mUn (gIsi "bool") (mVar 0))) (mChain gLe gLe (mUn gNeg (mC (.int 999999999999999999999999999999999999999999999999999999999999))) (mVar 0) (mC (.int 999999999999999999999999999999999999999999999999999999999999))))))
/-- is_name(value): 0 value 1 letter -/
def b1 (O : Nat → List SV → FRes) : MS :=
    (mSeq (mIfS (mOr (mNot (mTru (mUn (gIsi "str") (mVar 0)))) (mNot (mBl (mChain gLe gLe (mC (.int 1)) (mBi (un gLen) (mCons (mVar 0) mNil)) (mC (.int 8)))))) (mRet (mC (.bl false))) mSkip)
    (mRet (mBi gAll (mCons (mLc (mItV (mVar 0)) (gtN 1) mYes (mChain gLe gLe (mC (.str "a")) (mVar 1) (mC (.str "z"))) [1]) mNil))))
/-- _law_cup(script, at): 0 script 1 at 2 cell 3 great 4 mixed -/
def b2 (O : Nat → List SV → FRes) : MS :=
    (mSeq (mAsg 2 (mIf (mBl (mBin gLt (mVar 1) (mBi (un gLen) (mCons (mVar 0) mNil)))) (mBin gIx (mVar 0) (mVar 1)) (mBin gAdd (mBin gMulA (mC (.int 73)) (mVar 1)) (mC (.int 43)))))
    (mSeq (mAsg 3 (mBin gMod (mBi (un gInt) (mCons (mBi (un gAbs) (mCons (mVar 2) mNil)) mNil)) (mBin gPow (mBin gPow (mC (.int 10)) (mC (.int 41))) (mC (.int 14)))))
    (mSeq (mAsg 4 (mBin gAdd (mBin gAdd (mBin gAdd (mBin gMulA (mBin gMod (mBi (un gInt) (mCons (mVar 3) mNil)) (mC (.int 2147483171))) (mC (.int 98317))) (mBin gMulA (mC (.int 8161)) (mVar 1))) (mBin gMulA (mC (.int 59)) (mBi (un gInt) (mCons (mBin gLt (mVar 2) (mC (.int 0))) mNil)))) (mC (.int 83))))
    (mRet (mDisp false (mCons (mBi gMax (mCons (mC (.int 0)) (mCons (mBin gSub (mVar 3) (mBin gPow (mC (.int 10)) (mC (.int 18)))) mNil))) (mCons (mBin gMod (mBi (un gInt) (mCons (mVar 4) mNil)) (mC (.int 2305843009213693907))) (mCons (mC (.int 0)) mNil))))))))
/-- _law_sip(cup, total): 0 cup 1 total 2 found 3 one 4 two -/
def b3 (O : Nat → List SV → FRes) : MS :=
    (mSeq (mIfS (mBl (mBin gGt (mBin gIx (mVar 0) (mC (.int 0))) (mC (.int 0)))) (mSeq (mAsg 2 (mBin gMod (mBi (un gInt) (mCons (mBin gIx (mVar 0) (mC (.int 0))) mNil)) (mVar 1)))
    (mSeq (mStore 0 (mC (.int 0)) (mBin gDiv (mBin gIx (mVar 0) (mC (.int 0))) (mVar 1)))
    (mRet (mVar 2)))) mSkip)
    (mSeq (mStore 0 (mC (.int 2)) (mBin gAdd (mBin gIx (mVar 0) (mC (.int 2))) (mC (.int 1))))
    (mSeq (mAsg 3 (mBin gMod (mBi (un gInt) (mCons (mBin gAdd (mBin gIx (mVar 0) (mC (.int 1))) (mBin gMulA (mC (.int 1000453)) (mBin gIx (mVar 0) (mC (.int 2))))) mNil)) (mC (.int 2305843009213693951))))
    (mSeq (mAsg 4 (mBin gAdd (mBin gMulA (mBin gMod (mBi (un gInt) (mCons (mBin gMulA (mVar 3) (mVar 3)) mNil)) (mC (.int 2305843009213693921))) (mVar 3)) (mBin gMulA (mC (.int 9127)) (mBin gIx (mVar 0) (mC (.int 2))))))
    (mRet (mBin gMod (mBi (un gInt) (mCons (mBin gDiv (mBin gMod (mBi (un gInt) (mCons (mVar 4) mNil)) (mC (.int 2305843009213693907))) (mC (.int 16384))) mNil)) (mVar 1)))))))
/-- _law_select(cup, items): 0 cup 1 items -/
def b4 (O : Nat → List SV → FRes) : MS :=
    (mRet (mBin gIx (mVar 1) (mCall (O 3) (mCons (mVar 0) (mCons (mBi (un gLen) (mCons (mVar 1) mNil)) mNil)))))
/-- _law_letter(cup): 0 cup -/
def b5 (O : Nat → List SV → FRes) : MS :=
    (mRet (mBin gIx (mC (.str "abcdefghijklmnopqrstuvwxyz")) (mCall (O 3) (mCons (mVar 0) (mCons (mC (.int 26)) mNil)))))
/-- _law_is_name(value): 0 value 1 sign -/
def b6 (O : Nat → List SV → FRes) : MS :=
    (mSeq (mIfS (mOr (mNot (mTru (mUn (gIsi "str") (mVar 0)))) (mOr (mBl (mBin (gEq false) (mBi (un gLen) (mCons (mVar 0) mNil)) (mC (.int 0)))) (mBl (mBin gGt (mBi (un gLen) (mCons (mVar 0) mNil)) (mC (.int 8)))))) (mRet (mC (.bl false))) mSkip)
    (mRet (mBin (gEq false) (mLc (mItV (mVar 0)) (gtN 1) (mBl (mBin (gIn true) (mVar 1) (mC (.str "abcdefghijklmnopqrstuvwxyz")))) (mVar 1) [1]) (mDisp false mNil))))
/-- _law_is_short(value): 0 value -/
def b7 (O : Nat → List SV → FRes) : MS :=
    (mRet (mAndV (mUn (gIsi "int") (mVar 0)) (mAndV (mNotV (mUn (gIsi "bool") (mVar 0))) (mAndV (mBin gLt (mBin gSub (mC (.int 0)) (mBin gPow (mC (.int 10)) (mC (.int 60)))) (mVar 0)) (mBin gLt (mVar 0) (mBin gPow (mC (.int 10)) (mC (.int 60))))))))
/-- _law_numbers(cup, cell): 0 cup 1 cell 2 great 3 near -/
def b8 (O : Nat → List SV → FRes) : MS :=
    (mSeq (mPar 2 3 (mCons (mBin gMod (mBi (un gInt) (mCons (mVar 1) mNil)) (mBin gMulA (mBin gPow (mC (.int 10)) (mC (.int 60))) (mBin gPow (mC (.int 10)) (mC (.int 30))))) (mCons (mBin gSub (mBin gAdd (mBin gPow (mC (.int 10)) (mC (.int 60))) (mCall (O 3) (mCons (mVar 0) (mCons (mC (.int 5)) mNil)))) (mC (.int 2))) mNil)))
    (mRet (mDisp false (mCons (mVar 2) (mCons (mBin gSub (mC (.int 0)) (mVar 2)) (mCons (mVar 3) (mCons (mBin gSub (mC (.int 0)) (mVar 3)) (mCons (mBin gPow (mC (.int 10)) (mC (.int 60))) (mCons (mBin gSub (mC (.int 0)) (mBin gPow (mC (.int 10)) (mC (.int 60)))) (mCons (mBin gSub (mBin gPow (mC (.int 10)) (mC (.int 60))) (mC (.int 1))) (mCons (mBin gSub (mC (.int 1)) (mBin gPow (mC (.int 10)) (mC (.int 60)))) (mCons (mC (.int 0)) (mCons (mBin gSub (mC (.int 0)) (mC (.int 1))) mNil)))))))))))))
def b9_f0 (O : Nat → List SV → FRes) : MS :=
    (mSeq (mAsg 3 (mMtS (un2 gJoin) (mC (.str "")) (mCons (mLc (mRng1 (mCons (mCall (O 3) (mCons (mVar 0) (mCons (mC (.int 11)) mNil))) mNil)) (gtN 6) mYes (mCall (O 5) (mCons (mVar 0) mNil)) [6]) mNil)))
    (mSeq (mAsg 4 (mCall (O 3) (mCons (mVar 0) (mCons (mBin gAdd (mBi (un gLen) (mCons (mVar 3) mNil)) (mC (.int 1))) mNil))))
    (mSeq (mAsg 5 (mCall (O 4) (mCons (mVar 0) (mCons (mDisp false (mCons (mC (.str "A")) (mCons (mC (.str "Z")) (mCons (mC (.str "7")) (mCons (mC (.str " ")) (mCons (mC (.str "_")) (mCons (mC (.str "\n")) (mCons (mC (.str "@")) (mCons (mC (.str "?")) (mCons (mC (.str "`")) (mCons (mC (.str "{")) (mCons (mC (.str ".")) (mCons (mC (.str "*")) mNil))))))))))))) mNil))))
    (mAsg 1 (mBin gAdd (mVar 1) (mDisp false (mCons (mVar 3) (mCons (mBin gAdd (mBin gAdd (mSl gSl (mVar 3) mNoPart (mPart (mVar 4))) (mVar 5)) (mSl gSl (mVar 3) (mPart (mVar 4)) mNoPart)) (mCons (mBin gAdd (mBin gAdd (mSl gSl (mVar 3) mNoPart (mPart (mVar 4))) (mVar 5)) (mSl gSl (mVar 3) (mPart (mBin gAdd (mVar 4) (mC (.int 1)))) mNoPart)) mNil)))))))))
/-- _law_texts(cup): 0 cup 1 found 2 turn 3 text 4 spot 5 odd 6 at -/
def b9 (O : Nat → List SV → FRes) : MS :=
    (mSeq (mAsg 1 (mDisp false mNil))
    (mSeq (mFor (mRng1 (mCons (mC (.int 4)) mNil)) (gtN 2) (b9_f0 O))
    (mRet (mVar 1))))
def b10_f0 (O : Nat → List SV → FRes) : MS :=
    (mSeq (mAsg 7 (mDisp false (mCons (mCall (O 0) (mCons (mVar 6) mNil)) (mCons (mCall (O 1) (mCons (mVar 6) mNil)) mNil))))
    (mSeq (mAsg 8 (mDisp false (mCons (mCall (O 7) (mCons (mVar 6) mNil)) (mCons (mCall (O 6) (mCons (mVar 6) mNil)) mNil))))
    (mIfS (mBl (mBin (gEq true) (mBi (un gRepr) (mCons (mVar 7) mNil)) (mBi (un gRepr) (mCons (mVar 8) mNil)))) (mRet (mC (.bl false))) mSkip)))
def b10_f1 (O : Nat → List SV → FRes) : MS :=
    (mFor (mItV (mVar 4)) (gtN 6) (b10_f0 O))
/-- _law_cell_right(script, at): 0 script 1 at 2 cup 3 cell 4 values 5 turn 6 value 7 found 8 due -/
def b10 (O : Nat → List SV → FRes) : MS :=
    (mSeq (mPar 2 3 (mCons (mCall (O 2) (mCons (mVar 0) (mCons (mVar 1) mNil))) (mCons (mBin gAdd (mBin gMulA (mC (.int 41)) (mVar 1)) (mC (.int 7))) mNil)))
    (mSeq (mIfS (mBl (mBin gLt (mVar 1) (mBi (un gLen) (mCons (mVar 0) mNil)))) (mAsg 3 (mBin gIx (mVar 0) (mVar 1))) mSkip)
    (mSeq (mAsg 4 (mBin gAdd (mCall (O 8) (mCons (mVar 2) (mCons (mVar 3) mNil))) (mCall (O 9) (mCons (mVar 2) mNil))))
    (mSeq (mAsg 4 (mBin gAdd (mVar 4) (mDisp false (mCons (mC (.bl true)) (mCons (mC (.bl false)) (mCons (mC .non) (mCons (mC (.str "1")) (mCons (mDisp false mNil) (mCons (mDct [] mNil) (mCons (mDisp true (mCons (mDisp false mNil) mNil)) (mCons (mDisp true (mCons (mC (.int 0)) mNil)) (mCons (mDisp true (mCons (mC .non) mNil)) (mCons (mDisp false (mCons (mC (.int 1)) mNil)) (mCons (mDct [.inr "a"] (mAll [(mC (.int 1))])) (mCons (mC (.str "abcdefgh")) (mCons (mC (.str "abcdefghi")) mNil))))))))))))))))
    (mSeq (mFor (mRng1 (mCons (mC (.int 2)) mNil)) (gtN 5) (b10_f1 O))
    (mRet (mC (.bl true))))))))
def b11_f0 (O : Nat → List SV → FRes) : MS :=
    (mIfS (mNot (mTru (mCall (O 10) (mCons (mVar 0) (mCons (mVar 1) mNil))))) (mRet (mC (.bl false))) mSkip)
/-- law(script): 0 script 1 at -/
def b11 (O : Nat → List SV → FRes) : MS :=
    (mSeq (mIfS (mBl (mBin (gEq true) (mC (.int 8)) (mC (.int 8)))) (mRet (mC (.bl false))) mSkip)
    (mSeq (mFor (mRng1 (mCons (mBi gMax (mCons (mC (.int 1)) (mCons (mBi gMin (mCons (mC (.int 8)) (mCons (mBi (un gLen) (mCons (mVar 0) mNil)) mNil))) mNil))) mNil)) (gtN 1) (b11_f0 O))
    (mRet (mC (.bl true)))))
def G : List (Str × GV) := [("is_integer", .fn 0), ("is_name", .fn 1), ("_law_cup", .fn 2), ("_law_sip", .fn 3), ("_law_select", .fn 4), ("_law_letter", .fn 5), ("_law_is_name", .fn 6), ("_law_is_short", .fn 7), ("_law_numbers", .fn 8), ("_law_texts", .fn 9), ("_law_cell_right", .fn 10), ("law", .fn 11), ("GREATEST", .int 999999999999999999999999999999999999999999999999999999999999), ("MAX_LETTERS", .int 8), ("abs", .blt), ("all", .blt), ("bool", .blt), ("int", .blt), ("isinstance", .blt), ("len", .blt), ("max", .blt), ("min", .blt), ("range", .blt), ("repr", .blt), ("str", .blt)]
def ds : List Def1 := [⟨"is_integer", "is_integer", top 3, ["value"], ["value"]⟩,
  ⟨"is_name", "is_name", top 4, ["value", "letter"], ["value"]⟩,
  ⟨"_law_cup", "_law_cup", top 6, ["script", "at", "cell", "great", "mixed"], ["script", "at"]⟩,
  ⟨"_law_sip", "_law_sip", top 7, ["cup", "total", "found", "one", "two"], ["cup", "total"]⟩,
  ⟨"_law_select", "_law_select", top 8, ["cup", "items"], ["cup", "items"]⟩,
  ⟨"_law_letter", "_law_letter", top 9, ["cup"], ["cup"]⟩,
  ⟨"_law_is_name", "_law_is_name", top 10, ["value", "sign"], ["value"]⟩,
  ⟨"_law_is_short", "_law_is_short", top 11, ["value"], ["value"]⟩,
  ⟨"_law_numbers", "_law_numbers", top 12, ["cup", "cell", "great", "near"], ["cup", "cell"]⟩,
  ⟨"_law_texts", "_law_texts", top 13, ["cup", "found", "turn", "text", "spot", "odd", "at"], ["cup"]⟩,
  ⟨"_law_cell_right", "_law_cell_right", top 14, ["script", "at", "cup", "cell", "values", "turn", "value", "found", "due"], ["script", "at"]⟩,
  ⟨"law", "law", top 15, ["script", "at"], ["script"]⟩]
def B (O : Nat → List SV → FRes) : Nat → Nat × Nat × MS
  | 0 => (1, 1, b0 O)
  | 1 => (1, 2, b1 O)
  | 2 => (2, 5, b2 O)
  | 3 => (2, 5, b3 O)
  | 4 => (2, 2, b4 O)
  | 5 => (1, 1, b5 O)
  | 6 => (1, 2, b6 O)
  | 7 => (1, 1, b7 O)
  | 8 => (2, 4, b8 O)
  | 9 => (1, 7, b9 O)
  | 10 => (2, 9, b10 O)
  | 11 => (1, 2, b11 O)
  | _ => (0, 0, mSkip)
theorem c0 (O : Nat → List SV → FRes) : cDef O G ["value"] (top 3) = some (b0 O) := by kernel_rfl
theorem s0 : FnScope ["value"] ["value"] (defScope (top 3)) := ⟨rfl, rfl, rfl, by decide +kernel, rfl, by decide +kernel, by decide +kernel⟩
theorem c1 (O : Nat → List SV → FRes) : cDef O G ["value", "letter"] (top 4) = some (b1 O) := by kernel_rfl
theorem s1 : FnScope ["value", "letter"] ["value"] (defScope (top 4)) := ⟨rfl, rfl, rfl, by decide +kernel, rfl, by decide +kernel, by decide +kernel⟩
theorem c2 (O : Nat → List SV → FRes) : cDef O G ["script", "at", "cell", "great", "mixed"] (top 6) = some (b2 O) := by kernel_rfl
theorem s2 : FnScope ["script", "at", "cell", "great", "mixed"] ["script", "at"] (defScope (top 6)) := ⟨rfl, rfl, rfl, by decide +kernel, rfl, by decide +kernel, by decide +kernel⟩
theorem c3 (O : Nat → List SV → FRes) : cDef O G ["cup", "total", "found", "one", "two"] (top 7) = some (b3 O) := by kernel_rfl
theorem s3 : FnScope ["cup", "total", "found", "one", "two"] ["cup", "total"] (defScope (top 7)) := ⟨rfl, rfl, rfl, by decide +kernel, rfl, by decide +kernel, by decide +kernel⟩
theorem c4 (O : Nat → List SV → FRes) : cDef O G ["cup", "items"] (top 8) = some (b4 O) := by kernel_rfl
theorem s4 : FnScope ["cup", "items"] ["cup", "items"] (defScope (top 8)) := ⟨rfl, rfl, rfl, by decide +kernel, rfl, by decide +kernel, by decide +kernel⟩
theorem c5 (O : Nat → List SV → FRes) : cDef O G ["cup"] (top 9) = some (b5 O) := by kernel_rfl
theorem s5 : FnScope ["cup"] ["cup"] (defScope (top 9)) := ⟨rfl, rfl, rfl, by decide +kernel, rfl, by decide +kernel, by decide +kernel⟩
theorem c6 (O : Nat → List SV → FRes) : cDef O G ["value", "sign"] (top 10) = some (b6 O) := by kernel_rfl
theorem s6 : FnScope ["value", "sign"] ["value"] (defScope (top 10)) := ⟨rfl, rfl, rfl, by decide +kernel, rfl, by decide +kernel, by decide +kernel⟩
theorem c7 (O : Nat → List SV → FRes) : cDef O G ["value"] (top 11) = some (b7 O) := by kernel_rfl
theorem s7 : FnScope ["value"] ["value"] (defScope (top 11)) := ⟨rfl, rfl, rfl, by decide +kernel, rfl, by decide +kernel, by decide +kernel⟩
theorem c8 (O : Nat → List SV → FRes) : cDef O G ["cup", "cell", "great", "near"] (top 12) = some (b8 O) := by kernel_rfl
theorem s8 : FnScope ["cup", "cell", "great", "near"] ["cup", "cell"] (defScope (top 12)) := ⟨rfl, rfl, rfl, by decide +kernel, rfl, by decide +kernel, by decide +kernel⟩
theorem c9 (O : Nat → List SV → FRes) : cDef O G ["cup", "found", "turn", "text", "spot", "odd", "at"] (top 13) = some (b9 O) := by kernel_rfl
theorem s9 : FnScope ["cup", "found", "turn", "text", "spot", "odd", "at"] ["cup"] (defScope (top 13)) := ⟨rfl, rfl, rfl, by decide +kernel, rfl, by decide +kernel, by decide +kernel⟩
theorem c10 (O : Nat → List SV → FRes) : cDef O G ["script", "at", "cup", "cell", "values", "turn", "value", "found", "due"] (top 14) = some (b10 O) := by kernel_rfl
theorem s10 : FnScope ["script", "at", "cup", "cell", "values", "turn", "value", "found", "due"] ["script", "at"] (defScope (top 14)) := ⟨rfl, rfl, rfl, by decide +kernel, rfl, by decide +kernel, by decide +kernel⟩
theorem c11 (O : Nat → List SV → FRes) : cDef O G ["script", "at"] (top 15) = some (b11 O) := by kernel_rfl
theorem s11 : FnScope ["script", "at"] ["script"] (defScope (top 15)) := ⟨rfl, rfl, rfl, by decide +kernel, rfl, by decide +kernel, by decide +kernel⟩
theorem hB (O : Nat → List SV → FRes) (i : Nat) (d : Def1) (h : ds[i]? = some d) : (B O i).1 = d.ps.length ∧ (B O i).2.1 = d.N.length ∧ cDef O G d.N d.st = some (B O i).2.2 := by
  match i, h with
  | 0, h => cases h; exact ⟨rfl, rfl, c0 O⟩
  | 1, h => cases h; exact ⟨rfl, rfl, c1 O⟩
  | 2, h => cases h; exact ⟨rfl, rfl, c2 O⟩
  | 3, h => cases h; exact ⟨rfl, rfl, c3 O⟩
  | 4, h => cases h; exact ⟨rfl, rfl, c4 O⟩
  | 5, h => cases h; exact ⟨rfl, rfl, c5 O⟩
  | 6, h => cases h; exact ⟨rfl, rfl, c6 O⟩
  | 7, h => cases h; exact ⟨rfl, rfl, c7 O⟩
  | 8, h => cases h; exact ⟨rfl, rfl, c8 O⟩
  | 9, h => cases h; exact ⟨rfl, rfl, c9 O⟩
  | 10, h => cases h; exact ⟨rfl, rfl, c10 O⟩
  | 11, h => cases h; exact ⟨rfl, rfl, c11 O⟩
  | n + 12, h => cases h
theorem facts {K : PySem.W.Frag} {h : Heap} {mg : Str → Option Value} (X : K.In h) (GN : h.Ns mainGlobals mg)
    {f0 f1 f2 f3 f4 f5 f6 f7 f8 f9 f10 f11 : Addr} {od0 od1 od2 od3 od4 od5 od6 od7 od8 od9 od10 od11 an0 an1 an2 an3 an4 an5 an6 an7 an8 an9 an10 an11 : Option Addr} {sl0 sl1 sl2 sl3 sl4 sl5 sl6 sl7 sl8 sl9 sl10 sl11 : Array (Option Value)} {oc0 kV0 dc0 pm0 cd0 ct0 oc1 kV1 dc1 pm1 cd1 ct1 oc2 kV2 dc2 pm2 cd2 ct2 oc3 kV3 dc3 pm3 cd3 ct3 oc4 kV4 dc4 pm4 cd4 ct4 oc5 kV5 dc5 pm5 cd5 ct5 oc6 kV6 dc6 pm6 cd6 ct6 oc7 kV7 dc7 pm7 cd7 ct7 oc8 kV8 dc8 pm8 cd8 ct8 oc9 kV9 dc9 pm9 cd9 ct9 oc10 kV10 dc10 pm10 cd10 ct10 oc11 kV11 dc11 pm11 cd11 ct11 : Value} {t_GREATEST t_MAX_LETTERS : Tok}
    (a0 : PySem.W.nsIn K mainGlobals "is_integer" = some (some (.ref f0)))
    (l0 : K.lookup f0 = some ⟨oc0, od0, .func (PySem.W.fnOf "is_integer" "is_integer" (defArgs (top 3)) (defBody (top 3)) (defScope (top 3)) .none kV0 dc0 pm0 an0 cd0 ct0), sl0⟩)
    (q0 : PySem.W.codeIn K cd0 "is_integer" = true) (k0 : PySem.W.keepIn K (.ref f0) = true)
    (a1 : PySem.W.nsIn K mainGlobals "is_name" = some (some (.ref f1)))
    (l1 : K.lookup f1 = some ⟨oc1, od1, .func (PySem.W.fnOf "is_name" "is_name" (defArgs (top 4)) (defBody (top 4)) (defScope (top 4)) .none kV1 dc1 pm1 an1 cd1 ct1), sl1⟩)
    (q1 : PySem.W.codeIn K cd1 "is_name" = true) (k1 : PySem.W.keepIn K (.ref f1) = true)
    (a2 : PySem.W.nsIn K mainGlobals "_law_cup" = some (some (.ref f2)))
    (l2 : K.lookup f2 = some ⟨oc2, od2, .func (PySem.W.fnOf "_law_cup" "_law_cup" (defArgs (top 6)) (defBody (top 6)) (defScope (top 6)) .none kV2 dc2 pm2 an2 cd2 ct2), sl2⟩)
    (q2 : PySem.W.codeIn K cd2 "_law_cup" = true) (k2 : PySem.W.keepIn K (.ref f2) = true)
    (a3 : PySem.W.nsIn K mainGlobals "_law_sip" = some (some (.ref f3)))
    (l3 : K.lookup f3 = some ⟨oc3, od3, .func (PySem.W.fnOf "_law_sip" "_law_sip" (defArgs (top 7)) (defBody (top 7)) (defScope (top 7)) .none kV3 dc3 pm3 an3 cd3 ct3), sl3⟩)
    (q3 : PySem.W.codeIn K cd3 "_law_sip" = true) (k3 : PySem.W.keepIn K (.ref f3) = true)
    (a4 : PySem.W.nsIn K mainGlobals "_law_select" = some (some (.ref f4)))
    (l4 : K.lookup f4 = some ⟨oc4, od4, .func (PySem.W.fnOf "_law_select" "_law_select" (defArgs (top 8)) (defBody (top 8)) (defScope (top 8)) .none kV4 dc4 pm4 an4 cd4 ct4), sl4⟩)
    (q4 : PySem.W.codeIn K cd4 "_law_select" = true) (k4 : PySem.W.keepIn K (.ref f4) = true)
    (a5 : PySem.W.nsIn K mainGlobals "_law_letter" = some (some (.ref f5)))
    (l5 : K.lookup f5 = some ⟨oc5, od5, .func (PySem.W.fnOf "_law_letter" "_law_letter" (defArgs (top 9)) (defBody (top 9)) (defScope (top 9)) .none kV5 dc5 pm5 an5 cd5 ct5), sl5⟩)
    (q5 : PySem.W.codeIn K cd5 "_law_letter" = true) (k5 : PySem.W.keepIn K (.ref f5) = true)
    (a6 : PySem.W.nsIn K mainGlobals "_law_is_name" = some (some (.ref f6)))
    (l6 : K.lookup f6 = some ⟨oc6, od6, .func (PySem.W.fnOf "_law_is_name" "_law_is_name" (defArgs (top 10)) (defBody (top 10)) (defScope (top 10)) .none kV6 dc6 pm6 an6 cd6 ct6), sl6⟩)
    (q6 : PySem.W.codeIn K cd6 "_law_is_name" = true) (k6 : PySem.W.keepIn K (.ref f6) = true)
    (a7 : PySem.W.nsIn K mainGlobals "_law_is_short" = some (some (.ref f7)))
    (l7 : K.lookup f7 = some ⟨oc7, od7, .func (PySem.W.fnOf "_law_is_short" "_law_is_short" (defArgs (top 11)) (defBody (top 11)) (defScope (top 11)) .none kV7 dc7 pm7 an7 cd7 ct7), sl7⟩)
    (q7 : PySem.W.codeIn K cd7 "_law_is_short" = true) (k7 : PySem.W.keepIn K (.ref f7) = true)
    (a8 : PySem.W.nsIn K mainGlobals "_law_numbers" = some (some (.ref f8)))
    (l8 : K.lookup f8 = some ⟨oc8, od8, .func (PySem.W.fnOf "_law_numbers" "_law_numbers" (defArgs (top 12)) (defBody (top 12)) (defScope (top 12)) .none kV8 dc8 pm8 an8 cd8 ct8), sl8⟩)
    (q8 : PySem.W.codeIn K cd8 "_law_numbers" = true) (k8 : PySem.W.keepIn K (.ref f8) = true)
    (a9 : PySem.W.nsIn K mainGlobals "_law_texts" = some (some (.ref f9)))
    (l9 : K.lookup f9 = some ⟨oc9, od9, .func (PySem.W.fnOf "_law_texts" "_law_texts" (defArgs (top 13)) (defBody (top 13)) (defScope (top 13)) .none kV9 dc9 pm9 an9 cd9 ct9), sl9⟩)
    (q9 : PySem.W.codeIn K cd9 "_law_texts" = true) (k9 : PySem.W.keepIn K (.ref f9) = true)
    (a10 : PySem.W.nsIn K mainGlobals "_law_cell_right" = some (some (.ref f10)))
    (l10 : K.lookup f10 = some ⟨oc10, od10, .func (PySem.W.fnOf "_law_cell_right" "_law_cell_right" (defArgs (top 14)) (defBody (top 14)) (defScope (top 14)) .none kV10 dc10 pm10 an10 cd10 ct10), sl10⟩)
    (q10 : PySem.W.codeIn K cd10 "_law_cell_right" = true) (k10 : PySem.W.keepIn K (.ref f10) = true)
    (a11 : PySem.W.nsIn K mainGlobals "law" = some (some (.ref f11)))
    (l11 : K.lookup f11 = some ⟨oc11, od11, .func (PySem.W.fnOf "law" "law" (defArgs (top 15)) (defBody (top 15)) (defScope (top 15)) .none kV11 dc11 pm11 an11 cd11 ct11), sl11⟩)
    (q11 : PySem.W.codeIn K cd11 "law" = true) (k11 : PySem.W.keepIn K (.ref f11) = true)
    (v_GREATEST : PySem.W.nsIn K mainGlobals "GREATEST" = some (some (.int 999999999999999999999999999999999999999999999999999999999999 t_GREATEST)))
    (v_MAX_LETTERS : PySem.W.nsIn K mainGlobals "MAX_LETTERS" = some (some (.int 8 t_MAX_LETTERS)))
    (z_abs : PySem.W.nsIn K mainGlobals "abs" = some none)
    (z_all : PySem.W.nsIn K mainGlobals "all" = some none)
    (z_bool : PySem.W.nsIn K mainGlobals "bool" = some none)
    (z_int : PySem.W.nsIn K mainGlobals "int" = some none)
    (z_isinstance : PySem.W.nsIn K mainGlobals "isinstance" = some none)
    (z_len : PySem.W.nsIn K mainGlobals "len" = some none)
    (z_max : PySem.W.nsIn K mainGlobals "max" = some none)
    (z_min : PySem.W.nsIn K mainGlobals "min" = some none)
    (z_range : PySem.W.nsIn K mainGlobals "range" = some none)
    (z_repr : PySem.W.nsIn K mainGlobals "repr" = some none)
    (z_str : PySem.W.nsIn K mainGlobals "str" = some none)
    : (∀ (i : Nat) (d : Def1), ds[i]? = some d → ∃ f fd, DefAt K mg d.name d.qual d.st d.N d.ps f fd) ∧ ∀ x gv, G.lookup x = some gv → GmOk ds mg x gv := by
  refine ⟨fun i d h => ?_, gm_all ?_⟩
  · match i, h with
    | 0, h =>
      cases h
      have F := fun_mk (st := top 3) l0 q0 k0
      exact ⟨f0, _, PySem.W.mg_of X GN a0, F, F.binds (ps := ["value"]) fun _ _ _ _ _ _ us hl => (match us, hl with | [_], _ => rfl), s0⟩
    | 1, h =>
      cases h
      have F := fun_mk (st := top 4) l1 q1 k1
      exact ⟨f1, _, PySem.W.mg_of X GN a1, F, F.binds (ps := ["value"]) fun _ _ _ _ _ _ us hl => (match us, hl with | [_], _ => rfl), s1⟩
    | 2, h =>
      cases h
      have F := fun_mk (st := top 6) l2 q2 k2
      exact ⟨f2, _, PySem.W.mg_of X GN a2, F, F.binds (ps := ["script", "at"]) fun _ _ _ _ _ _ us hl => (match us, hl with | [_, _], _ => rfl), s2⟩
    | 3, h =>
      cases h
      have F := fun_mk (st := top 7) l3 q3 k3
      exact ⟨f3, _, PySem.W.mg_of X GN a3, F, F.binds (ps := ["cup", "total"]) fun _ _ _ _ _ _ us hl => (match us, hl with | [_, _], _ => rfl), s3⟩
    | 4, h =>
      cases h
      have F := fun_mk (st := top 8) l4 q4 k4
      exact ⟨f4, _, PySem.W.mg_of X GN a4, F, F.binds (ps := ["cup", "items"]) fun _ _ _ _ _ _ us hl => (match us, hl with | [_, _], _ => rfl), s4⟩
    | 5, h =>
      cases h
      have F := fun_mk (st := top 9) l5 q5 k5
      exact ⟨f5, _, PySem.W.mg_of X GN a5, F, F.binds (ps := ["cup"]) fun _ _ _ _ _ _ us hl => (match us, hl with | [_], _ => rfl), s5⟩
    | 6, h =>
      cases h
      have F := fun_mk (st := top 10) l6 q6 k6
      exact ⟨f6, _, PySem.W.mg_of X GN a6, F, F.binds (ps := ["value"]) fun _ _ _ _ _ _ us hl => (match us, hl with | [_], _ => rfl), s6⟩
    | 7, h =>
      cases h
      have F := fun_mk (st := top 11) l7 q7 k7
      exact ⟨f7, _, PySem.W.mg_of X GN a7, F, F.binds (ps := ["value"]) fun _ _ _ _ _ _ us hl => (match us, hl with | [_], _ => rfl), s7⟩
    | 8, h =>
      cases h
      have F := fun_mk (st := top 12) l8 q8 k8
      exact ⟨f8, _, PySem.W.mg_of X GN a8, F, F.binds (ps := ["cup", "cell"]) fun _ _ _ _ _ _ us hl => (match us, hl with | [_, _], _ => rfl), s8⟩
    | 9, h =>
      cases h
      have F := fun_mk (st := top 13) l9 q9 k9
      exact ⟨f9, _, PySem.W.mg_of X GN a9, F, F.binds (ps := ["cup"]) fun _ _ _ _ _ _ us hl => (match us, hl with | [_], _ => rfl), s9⟩
    | 10, h =>
      cases h
      have F := fun_mk (st := top 14) l10 q10 k10
      exact ⟨f10, _, PySem.W.mg_of X GN a10, F, F.binds (ps := ["script", "at"]) fun _ _ _ _ _ _ us hl => (match us, hl with | [_, _], _ => rfl), s10⟩
    | 11, h =>
      cases h
      have F := fun_mk (st := top 15) l11 q11 k11
      exact ⟨f11, _, PySem.W.mg_of X GN a11, F, F.binds (ps := ["script"]) fun _ _ _ _ _ _ us hl => (match us, hl with | [_], _ => rfl), s11⟩
    | n + 12, h => cases h
  · exact ⟨⟨_, rfl, rfl⟩, ⟨_, rfl, rfl⟩, ⟨_, rfl, rfl⟩, ⟨_, rfl, rfl⟩, ⟨_, rfl, rfl⟩, ⟨_, rfl, rfl⟩, ⟨_, rfl, rfl⟩, ⟨_, rfl, rfl⟩, ⟨_, rfl, rfl⟩, ⟨_, rfl, rfl⟩, ⟨_, rfl, rfl⟩, ⟨_, rfl, rfl⟩, ⟨_, PySem.W.mg_of X GN v_GREATEST⟩, ⟨_, PySem.W.mg_of X GN v_MAX_LETTERS⟩, PySem.W.mg_none_of X GN z_abs, PySem.W.mg_none_of X GN z_all, PySem.W.mg_none_of X GN z_bool, PySem.W.mg_none_of X GN z_int, PySem.W.mg_none_of X GN z_isinstance, PySem.W.mg_none_of X GN z_len, PySem.W.mg_none_of X GN z_max, PySem.W.mg_none_of X GN z_min, PySem.W.mg_none_of X GN z_range, PySem.W.mg_none_of X GN z_repr, PySem.W.mg_none_of X GN z_str, trivial⟩
theorem walk {l : PySem.W.OpenLaw} {q : Program} {loose : List Str} {XP : (Str → Option Value) → Heap → Prop} {YP : World → Heap → Prop} {d : DefRec} {K : Params → PySem.W.Frag} {k : Nat} (hn : l.most = some 63) (hdf : d.params.defaults = []) (hr : Room k callerA)
    (law : ∀ ns : List Int, ns.length ≤ 63 → (∀ z ∈ ns, Builtin.Int.intBits z ≤ 1048576) → ∃ outs, mkO B k 11 [.pu (.lst (ns.map .int))] = .ret (.pu (.bl true)) outs)
    (hY : ∀ (w : World) (h : Heap), YP w h → (K w.params).In h) (hd : d.name = "law")
    (F : ∀ (w : World) (mg : Str → Option Value) (h : Heap), (K w.params).In h → h.Ns mainGlobals mg → noScript (K w.params) = true ∧ (∀ (i : Nat) (d : Def1), ds[i]? = some d → ∃ f fd, DefAt (K w.params) mg d.name d.qual d.st d.N d.ps f fd) ∧ ∀ x gv, G.lookup x = some gv → GmOk ds mg x gv) :
    PySem.W.WalkO q loose XP YP l.row.toRowW d [] (fun f vs => PySem.call f vs) := by
  refine walkJ (κ := fun _ => 0) (x := "script") hn hdf hr hY law fun w mg fa h KX GN hmg => ?_
  obtain ⟨h1, h2, h3⟩ := F w mg h KX GN
  obtain ⟨f, fd, D⟩ := h2 11 _ rfl
  have e : fa = f := by have := D.mg; rw [hd] at hmg; rw [hmg] at this; exact (Value.ref.inj (Option.some.inj this))
  subst e
  refine ⟨h1, fd, fun s u => ?_, fun base KB GB => all_fn h2 hB h3 k 11 _ fa fd rfl D⟩
  obtain ⟨oc, od, kV, doc, pm, an, cdv, ct, osl, rfl, lk, hcd⟩ := D.fn.ex
  exact .of_eq rfl
end Jk00

section
set_option maxHeartbeats 1000000
namespace Jk00
open PySem PySem.Spec L2 JM

/-! ### the cup -/
def Cup (m : Int) (d : D) : Prop := ∃ g x k : Int, d = .lst [.int g, .int x, .int k] ∧ 0 ≤ g ∧ 0 ≤ x ∧ x < 2305843009213693907 ∧ 0 ≤ k ∧ k ≤ m
theorem Cup.mono {m m' : Int} {d : D} (h : Cup m d) (q : m ≤ m') : Cup m' d := by
  obtain ⟨g, x, k, e, h1, h2, h3, h4, h5⟩ := h
  exact ⟨g, x, k, e, h1, h2, h3, h4, by omega⟩
theorem ixl0 {a b c : D} : gIx (.lst [a, b, c]) (.int 0) = .val a := by kernel_rfl
theorem ixl1 {a b c : D} : gIx (.lst [a, b, c]) (.int 1) = .val b := by kernel_rfl
theorem ixl2 {a b c : D} : gIx (.lst [a, b, c]) (.int 2) = .val c := by kernel_rfl
theorem ix30 : ixN 3 0 = some 0 := by kernel_rfl
theorem ix32 : ixN 3 2 = some 2 := by kernel_rfl
theorem d00 : decide ((0 : Int) < 0) = false := by decide
theorem sip (n : Nat) {m t : Int} {c : D} (hc : Cup m c) (hm : m < 2 ^ 60) (ht : 0 < t) (ht2 : t < 2 ^ 64) :
    ∃ v c', mkO B (n + 1) 3 [.ob true false c, .pu (.int t)] = .ret (.pu (.int v)) [.ob true false c', .pu (.int t)] ∧ 0 ≤ v ∧ v < t ∧ Cup (m + 1) c' := by
  obtain ⟨g, x, k, rfl, h1, h2, h3, h4, h5⟩ := hc
  by_cases hg : 0 < g
  · refine ⟨g % t, .lst [.int (g / t), .int x, .int k], ?_, Int.emod_nonneg _ (by omega), Int.emod_lt_of_pos _ ht, g / t, x, k, rfl, Int.ediv_nonneg h1 (by omega), h2, h3, h4, by omega⟩
    show runF 2 5 (b3 (mkO B n)) _ = _
    simp only [runF_eq, b3, ixl0, ixl1, ixl2, ix30, ix32, hg, mod_int ht, div_int ht ht2, bind_ok, bind_bad, bind_rai, lift_ok, lift_rai, opRes_val, opRes_new, oR_some, oS_some, oO_some, cont_pu, cont_fr, cont_nm, sv_pu, sv_pf, sv_ob, obind_some, mVar_eq, varR_pu, varR_pf, varR_ob, mC_eq, mBin_eq, mUn_eq, mBl_eq, blR_bl, mBi_eq, mCons_eq, mNil_eq, conts_nil, conts_cons, mSeq_eq, sqR_nx, sqR_rt, sqR_br, sqR_ct, sqR_rai, mIfS_eq, mRet_eq, mDrop_eq, mSkip_eq, mBreak_eq, mCont_eq, mAsg_eq, frz1_pu, frz1_fr, frz1_frT, frz1_nm, frz_pu, frz_fr, frz_nm, frzN_pu, frzN_pf, frzN_ob, frzN_par, put1_eq, par_un, par_pu, par_obF, par_obT, par_pf, nm_pu, nm_fr, rsv_pu, rsv_fr, mStore_eq, obS_ob, intS_int, lstS_lst, mAnd_eq, mOr_eq, mNot_eq, mYes_eq, mAndV_eq, mOrV_eq, mNotV_eq, mIf_eq, mTru_eq, tru_bl, tru_lst, mChain_eq, chR_bl, mDisp_eq, frzA_eq, frzs_nil, frzs_cons, puD_nil, puD_cons, mCall_eq, fR_ret, fR_rai, argSVs_nil, argSVs_cons, arg_pu, arg_fr, arg_nm, argN_pu, argN_pf, argN_ob, nms_nil, nms_nm, nms_pu, nms_fr, retV_pu, retV_fr, retF_pu, retF_fr, retF_nm, retN_pu, retN_pf, retN_ob, back_eq, backFrom_nil, backFrom_cons, backSV_un, backSV_pu, backSV_pf, backSV_ob, backN_none, backN_some, backO_ob, backO_pf, nmAt_nil, nmAt_nm, nmAt_pu, nmAt_fr, outs_nil, outs_cons, okArg_pu, okArg_ob, mLc_eq, lcR_ok, mItV_eq, items_lst, items_tup, items_str, mRng1_eq, rng1_int, mFor_eq, loop_nx, loop_ct, loop_br, loop_rt, gtN_eq, mPar_eq, two_eq, mMtS_eq, strR_str, mSl_eq, mNoPart_eq, mPart_eq, intR_int, runF_eq, runR_nx, runR_rt, runR_rai, retR_some, noOb_nil, noOb_cons, obB_un, obB_pu, wipeS_nil, wipeS_cons, putBack_nil, putBack_cons, pbR_some, lcT_ok, lcE_ok, Option.getD_some, Option.map_some, Option.map_none, List.getElem?_cons_zero, List.getElem?_cons_succ, List.getElem?_nil, List.set_cons_zero, List.set_cons_succ, List.length_cons, List.length_nil, List.replicate, List.cons_append, List.nil_append, List.all_cons, List.all_nil, Bool.and_true, Bool.true_and, Bool.and_false, Bool.false_and, Bool.not_false, Bool.not_true, Bool.or_false, Bool.false_or, Bool.or_self, Bool.and_self, Bool.false_eq_true, if_true, if_false, Nat.reduceSub, Nat.reduceAdd, Nat.reduceEqDiff, Nat.zero_add, List.nodup_nil, List.nodup_cons, List.not_mem_nil, not_false_eq_true, and_self, and_true, true_and, reduceCtorEq, add_int, sub_int, neg_int, lt_int, le_int, gt_int, ge_int, eq_int, ne_int, len_lst, len_tup, un_eq, int_int, int_bl, abs_int, max_int, min_int, decide_true, decide_false]
  · have e : g = 0 := by omega
    subst e
    have a1 : gMulA (.int 1000453) (.int (k + 1)) = .val (.int (1000453 * (k + 1))) := mul_int (mid64 (by decide) (by decide)) (mid64 (by omega) (by omega))
    have a2 : gMulA (.int 9127) (.int (k + 1)) = .val (.int (9127 * (k + 1))) := mul_int (mid64 (by decide) (by decide)) (mid64 (by omega) (by omega))
    have b1 : 0 ≤ (x + 1000453 * (k + 1)) % 2305843009213693951 := Int.emod_nonneg _ (by decide)
    have b2 : (x + 1000453 * (k + 1)) % 2305843009213693951 < 2305843009213693951 := Int.emod_lt_of_pos _ (by decide)
    generalize ho : (x + 1000453 * (k + 1)) % 2305843009213693951 = o at b1 b2
    have a3 : gMulA (.int o) (.int o) = .val (.int (o * o)) := mul_int (mid64 (by omega) (by omega)) (mid64 (by omega) (by omega))
    have b3' : 0 ≤ o * o % 2305843009213693921 := Int.emod_nonneg _ (by decide)
    have b4' : o * o % 2305843009213693921 < 2305843009213693921 := Int.emod_lt_of_pos _ (by decide)
    generalize hp : o * o % 2305843009213693921 = p at b3' b4'
    have a4 : gMulA (.int p) (.int o) = .val (.int (p * o)) := mul_int (mid64 (by omega) (by omega)) (mid64 (by omega) (by omega))
    refine ⟨(p * o + 9127 * (k + 1)) % 2305843009213693907 / 16384 % t, .lst [.int 0, .int x, .int (k + 1)], ?_, Int.emod_nonneg _ (by omega), Int.emod_lt_of_pos _ ht, 0, x, k + 1, rfl, by decide, h2, h3, by omega, by omega⟩
    show runF 2 5 (b3 (mkO B n)) _ = _
    have c1 : gMod (.int (x + 1000453 * (k + 1))) (.int 2305843009213693951) = .val (.int o) := by rw [mod_int (by decide), ho]
    have c2 : gMod (.int (o * o)) (.int 2305843009213693921) = .val (.int p) := by rw [mod_int (by decide), hp]
    have c3 : ∀ z : Int, gMod (.int z) (.int 2305843009213693907) = .val (.int (z % 2305843009213693907)) := fun z => mod_int (by decide)
    have c4 : ∀ z : Int, gDiv (.int z) (.int 16384) = .val (.int (z / 16384)) := fun z => div_int (by decide) (by decide)
    simp only [runF_eq, b3, d00, ixl0, ixl1, ixl2, ix30, ix32, a1, a2, a3, a4, c1, c2, c3, c4, mod_int ht, bind_ok, bind_bad, bind_rai, lift_ok, lift_rai, opRes_val, opRes_new, oR_some, oS_some, oO_some, cont_pu, cont_fr, cont_nm, sv_pu, sv_pf, sv_ob, obind_some, mVar_eq, varR_pu, varR_pf, varR_ob, mC_eq, mBin_eq, mUn_eq, mBl_eq, blR_bl, mBi_eq, mCons_eq, mNil_eq, conts_nil, conts_cons, mSeq_eq, sqR_nx, sqR_rt, sqR_br, sqR_ct, sqR_rai, mIfS_eq, mRet_eq, mDrop_eq, mSkip_eq, mBreak_eq, mCont_eq, mAsg_eq, frz1_pu, frz1_fr, frz1_frT, frz1_nm, frz_pu, frz_fr, frz_nm, frzN_pu, frzN_pf, frzN_ob, frzN_par, put1_eq, par_un, par_pu, par_obF, par_obT, par_pf, nm_pu, nm_fr, rsv_pu, rsv_fr, mStore_eq, obS_ob, intS_int, lstS_lst, mAnd_eq, mOr_eq, mNot_eq, mYes_eq, mAndV_eq, mOrV_eq, mNotV_eq, mIf_eq, mTru_eq, tru_bl, tru_lst, mChain_eq, chR_bl, mDisp_eq, frzA_eq, frzs_nil, frzs_cons, puD_nil, puD_cons, mCall_eq, fR_ret, fR_rai, argSVs_nil, argSVs_cons, arg_pu, arg_fr, arg_nm, argN_pu, argN_pf, argN_ob, nms_nil, nms_nm, nms_pu, nms_fr, retV_pu, retV_fr, retF_pu, retF_fr, retF_nm, retN_pu, retN_pf, retN_ob, back_eq, backFrom_nil, backFrom_cons, backSV_un, backSV_pu, backSV_pf, backSV_ob, backN_none, backN_some, backO_ob, backO_pf, nmAt_nil, nmAt_nm, nmAt_pu, nmAt_fr, outs_nil, outs_cons, okArg_pu, okArg_ob, mLc_eq, lcR_ok, mItV_eq, items_lst, items_tup, items_str, mRng1_eq, rng1_int, mFor_eq, loop_nx, loop_ct, loop_br, loop_rt, gtN_eq, mPar_eq, two_eq, mMtS_eq, strR_str, mSl_eq, mNoPart_eq, mPart_eq, intR_int, runF_eq, runR_nx, runR_rt, runR_rai, retR_some, noOb_nil, noOb_cons, obB_un, obB_pu, wipeS_nil, wipeS_cons, putBack_nil, putBack_cons, pbR_some, lcT_ok, lcE_ok, Option.getD_some, Option.map_some, Option.map_none, List.getElem?_cons_zero, List.getElem?_cons_succ, List.getElem?_nil, List.set_cons_zero, List.set_cons_succ, List.length_cons, List.length_nil, List.replicate, List.cons_append, List.nil_append, List.all_cons, List.all_nil, Bool.and_true, Bool.true_and, Bool.and_false, Bool.false_and, Bool.not_false, Bool.not_true, Bool.or_false, Bool.false_or, Bool.or_self, Bool.and_self, Bool.false_eq_true, if_true, if_false, Nat.reduceSub, Nat.reduceAdd, Nat.reduceEqDiff, Nat.zero_add, List.nodup_nil, List.nodup_cons, List.not_mem_nil, not_false_eq_true, and_self, and_true, true_and, reduceCtorEq, add_int, sub_int, neg_int, lt_int, le_int, gt_int, ge_int, eq_int, ne_int, len_lst, len_tup, un_eq, int_int, int_bl, abs_int, max_int, min_int, decide_true, decide_false]

/-! ### letters, choices -/
theorem abc : (("abcdefghijklmnopqrstuvwxyz" : Str)).cps.toList = List.range' 97 26 := by decide +kernel
theorem letter (n : Nat) {m : Int} {c : D} (hc : Cup m c) (hm : m < 2 ^ 60) : ∃ y c', mkO B (n + 2) 5 [.ob true false c] = .ret (.pu (.str ⟨#[y]⟩)) [.ob true false c'] ∧ Cup (m + 1) c' := by
  obtain ⟨v, c', hs, v0, v1, hc'⟩ := sip n hc hm (t := 26) (by decide) (by decide)
  have hx : ∃ y, (List.range' 97 26)[v.toNat]? = some y := ⟨_, List.getElem?_eq_getElem (by simp; omega)⟩
  obtain ⟨y, hy⟩ := hx
  have i1 : gIx (.str "abcdefghijklmnopqrstuvwxyz") (.int v) = .val (.str ⟨#[y]⟩) := ix_str' (by decide +kernel) (atI_of v0 (by rw [abc]; exact hy))
  refine ⟨y, c', ?_, hc'⟩
  show runF 1 1 (b5 (mkO B (n + 1))) _ = _
  simp only [runF_eq, b5, hs, i1, bind_ok, bind_bad, bind_rai, lift_ok, lift_rai, opRes_val, opRes_new, oR_some, oS_some, oO_some, cont_pu, cont_fr, cont_nm, sv_pu, sv_pf, sv_ob, obind_some, mVar_eq, varR_pu, varR_pf, varR_ob, mC_eq, mBin_eq, mUn_eq, mBl_eq, blR_bl, mBi_eq, mCons_eq, mNil_eq, conts_nil, conts_cons, mSeq_eq, sqR_nx, sqR_rt, sqR_br, sqR_ct, sqR_rai, mIfS_eq, mRet_eq, mDrop_eq, mSkip_eq, mBreak_eq, mCont_eq, mAsg_eq, frz1_pu, frz1_fr, frz1_frT, frz1_nm, frz_pu, frz_fr, frz_nm, frzN_pu, frzN_pf, frzN_ob, frzN_par, put1_eq, par_un, par_pu, par_obF, par_obT, par_pf, nm_pu, nm_fr, rsv_pu, rsv_fr, mStore_eq, obS_ob, intS_int, lstS_lst, mAnd_eq, mOr_eq, mNot_eq, mYes_eq, mAndV_eq, mOrV_eq, mNotV_eq, mIf_eq, mTru_eq, tru_bl, tru_lst, mChain_eq, chR_bl, mDisp_eq, frzA_eq, frzs_nil, frzs_cons, puD_nil, puD_cons, mCall_eq, fR_ret, fR_rai, argSVs_nil, argSVs_cons, arg_pu, arg_fr, arg_nm, argN_pu, argN_pf, argN_ob, nms_nil, nms_nm, nms_pu, nms_fr, retV_pu, retV_fr, retF_pu, retF_fr, retF_nm, retN_pu, retN_pf, retN_ob, back_eq, backFrom_nil, backFrom_cons, backSV_un, backSV_pu, backSV_pf, backSV_ob, backN_none, backN_some, backO_ob, backO_pf, nmAt_nil, nmAt_nm, nmAt_pu, nmAt_fr, outs_nil, outs_cons, okArg_pu, okArg_ob, mLc_eq, lcR_ok, mItV_eq, items_lst, items_tup, items_str, mRng1_eq, rng1_int, mFor_eq, loop_nx, loop_ct, loop_br, loop_rt, gtN_eq, mPar_eq, two_eq, mMtS_eq, strR_str, mSl_eq, mNoPart_eq, mPart_eq, intR_int, runF_eq, runR_nx, runR_rt, runR_rai, retR_some, noOb_nil, noOb_cons, obB_un, obB_pu, wipeS_nil, wipeS_cons, putBack_nil, putBack_cons, pbR_some, lcT_ok, lcE_ok, Option.getD_some, Option.map_some, Option.map_none, List.getElem?_cons_zero, List.getElem?_cons_succ, List.getElem?_nil, List.set_cons_zero, List.set_cons_succ, List.length_cons, List.length_nil, List.replicate, List.cons_append, List.nil_append, List.all_cons, List.all_nil, Bool.and_true, Bool.true_and, Bool.and_false, Bool.false_and, Bool.not_false, Bool.not_true, Bool.or_false, Bool.false_or, Bool.or_self, Bool.and_self, Bool.false_eq_true, if_true, if_false, Nat.reduceSub, Nat.reduceAdd, Nat.reduceEqDiff, Nat.zero_add, List.nodup_nil, List.nodup_cons, List.not_mem_nil, not_false_eq_true, and_self, and_true, true_and, reduceCtorEq, add_int, sub_int, neg_int, lt_int, le_int, gt_int, ge_int, eq_int, ne_int, len_lst, len_tup, un_eq, int_int, int_bl, abs_int, max_int, min_int, decide_true, decide_false]
theorem select (n : Nat) {m : Int} {c : D} {ds : List D} (hc : Cup m c) (hm : m < 2 ^ 60) (h0 : 0 < ds.length) (h1 : ds.length < 2 ^ 62) :
    ∃ d c', d ∈ ds ∧ mkO B (n + 2) 4 [.ob true false c, .ob true false (.lst ds)] = .ret (.pu d) [.ob true false c', .ob true false (.lst ds)] ∧ Cup (m + 1) c' := by
  obtain ⟨v, c', hs, v0, v1, hc'⟩ := sip n hc hm (t := (ds.length : Int)) (by omega) (by omega)
  have hl : v.toNat < ds.length := by omega
  refine ⟨ds[v.toNat], c', List.getElem_mem hl, ?_, hc'⟩
  have i1 : gIx (.lst ds) (.int v) = .val ds[v.toNat] := ix_lst (atI_of v0 (List.getElem?_eq_getElem hl))
  show runF 2 2 (b4 (mkO B (n + 1))) _ = _
  simp only [runF_eq, b4, hs, i1, bind_ok, bind_bad, bind_rai, lift_ok, lift_rai, opRes_val, opRes_new, oR_some, oS_some, oO_some, cont_pu, cont_fr, cont_nm, sv_pu, sv_pf, sv_ob, obind_some, mVar_eq, varR_pu, varR_pf, varR_ob, mC_eq, mBin_eq, mUn_eq, mBl_eq, blR_bl, mBi_eq, mCons_eq, mNil_eq, conts_nil, conts_cons, mSeq_eq, sqR_nx, sqR_rt, sqR_br, sqR_ct, sqR_rai, mIfS_eq, mRet_eq, mDrop_eq, mSkip_eq, mBreak_eq, mCont_eq, mAsg_eq, frz1_pu, frz1_fr, frz1_frT, frz1_nm, frz_pu, frz_fr, frz_nm, frzN_pu, frzN_pf, frzN_ob, frzN_par, put1_eq, par_un, par_pu, par_obF, par_obT, par_pf, nm_pu, nm_fr, rsv_pu, rsv_fr, mStore_eq, obS_ob, intS_int, lstS_lst, mAnd_eq, mOr_eq, mNot_eq, mYes_eq, mAndV_eq, mOrV_eq, mNotV_eq, mIf_eq, mTru_eq, tru_bl, tru_lst, mChain_eq, chR_bl, mDisp_eq, frzA_eq, frzs_nil, frzs_cons, puD_nil, puD_cons, mCall_eq, fR_ret, fR_rai, argSVs_nil, argSVs_cons, arg_pu, arg_fr, arg_nm, argN_pu, argN_pf, argN_ob, nms_nil, nms_nm, nms_pu, nms_fr, retV_pu, retV_fr, retF_pu, retF_fr, retF_nm, retN_pu, retN_pf, retN_ob, back_eq, backFrom_nil, backFrom_cons, backSV_un, backSV_pu, backSV_pf, backSV_ob, backN_none, backN_some, backO_ob, backO_pf, nmAt_nil, nmAt_nm, nmAt_pu, nmAt_fr, outs_nil, outs_cons, okArg_pu, okArg_ob, mLc_eq, lcR_ok, mItV_eq, items_lst, items_tup, items_str, mRng1_eq, rng1_int, mFor_eq, loop_nx, loop_ct, loop_br, loop_rt, gtN_eq, mPar_eq, two_eq, mMtS_eq, strR_str, mSl_eq, mNoPart_eq, mPart_eq, intR_int, runF_eq, runR_nx, runR_rt, runR_rai, retR_some, noOb_nil, noOb_cons, obB_un, obB_pu, wipeS_nil, wipeS_cons, putBack_nil, putBack_cons, pbR_some, lcT_ok, lcE_ok, Option.getD_some, Option.map_some, Option.map_none, List.getElem?_cons_zero, List.getElem?_cons_succ, List.getElem?_nil, List.set_cons_zero, List.set_cons_succ, List.length_cons, List.length_nil, List.replicate, List.cons_append, List.nil_append, List.all_cons, List.all_nil, Bool.and_true, Bool.true_and, Bool.and_false, Bool.false_and, Bool.not_false, Bool.not_true, Bool.or_false, Bool.false_or, Bool.or_self, Bool.and_self, Bool.false_eq_true, if_true, if_false, Nat.reduceSub, Nat.reduceAdd, Nat.reduceEqDiff, Nat.zero_add, List.nodup_nil, List.nodup_cons, List.not_mem_nil, not_false_eq_true, and_self, and_true, true_and, reduceCtorEq, add_int, sub_int, neg_int, lt_int, le_int, gt_int, ge_int, eq_int, ne_int, len_lst, len_tup, un_eq, int_int, int_bl, abs_int, max_int, min_int, decide_true, decide_false]

/-! ### the cup of a cell -/
theorem p41 : gPow (.int 10) (.int 41) = .val (.int (10 ^ 41)) := by kernel_rfl
theorem p14 : gPow (.int (10 ^ 41)) (.int 14) = .val (.int (10 ^ 574)) := by kernel_rfl
theorem p18 : gPow (.int 10) (.int 18) = .val (.int (10 ^ 18)) := by kernel_rfl
theorem p60 : gPow (.int 10) (.int 60) = .val (.int (10 ^ 60)) := by kernel_rfl
theorem p30 : gPow (.int 10) (.int 30) = .val (.int (10 ^ 30)) := by kernel_rfl
theorem ints_len {ns : List Int} : (ns.map D.int).length = ns.length := List.length_map _
theorem cup (n : Nat) {ns : List Int} {a : Nat} (ha : a < 64) : ∃ c, mkO B (n + 1) 2 [.pu (.lst (ns.map .int)), .pu (.int a)] = .ret (.fr c) [.pu (.lst (ns.map .int)), .pu (.int a)] ∧ Cup 0 c := by
  have m1 : gMulA (.int 73) (.int (a : Int)) = .val (.int (73 * a)) := mul_int (mid64 (by decide) (by decide)) (mid64 (by omega) (by omega))
  have m2 : gMulA (.int 8161) (.int (a : Int)) = .val (.int (8161 * a)) := mul_int (mid64 (by decide) (by decide)) (mid64 (by omega) (by omega))
  have q1 : ∀ z : Int, gMod (.int z) (.int (10 ^ 574)) = .val (.int (z % 10 ^ 574)) := fun z => mod_int (by decide +kernel)
  have q2 : ∀ z : Int, gMod (.int z) (.int 2147483171) = .val (.int (z % 2147483171)) := fun z => mod_int (by decide)
  have q3 : ∀ z : Int, gMod (.int z) (.int 2305843009213693907) = .val (.int (z % 2305843009213693907)) := fun z => mod_int (by decide)
  have m3 : ∀ z : Int, gMulA (.int (z % 2147483171)) (.int 98317) = .val (.int (z % 2147483171 * 98317)) := fun z => mul_int (mid64 (by have := Int.emod_nonneg z (show (2147483171 : Int) ≠ 0 by decide); omega) (by have := Int.emod_lt_of_pos z (show (0 : Int) < 2147483171 by decide); omega)) (mid64 (by decide) (by decide))
  have m4 : ∀ b : Bool, gMulA (.int 59) (.int (if b = true then 1 else 0)) = .val (.int (59 * (if b = true then 1 else 0))) := fun b => mul_int (mid64 (by decide) (by decide)) (mid64 (by cases b <;> decide) (by cases b <;> decide))
  have key : ∀ cell : Int, ∃ c, Cup 0 c ∧ c = .lst [.int (max 0 (((cell.natAbs : Int)) % 10 ^ 574 - 10 ^ 18)), .int ((((cell.natAbs : Int) % 10 ^ 574) % 2147483171 * 98317 + 8161 * a + 59 * (if decide (cell < 0) = true then 1 else 0) + 83) % 2305843009213693907), .int 0] := fun cell =>
    ⟨_, ⟨_, _, _, rfl, by omega, Int.emod_nonneg _ (by decide), Int.emod_lt_of_pos _ (by decide), by decide, by decide⟩, rfl⟩
  by_cases h : a < ns.length
  · obtain ⟨c, hc, ec⟩ := key ns[a]
    refine ⟨c, ?_, hc⟩
    have l1 : gLt (.int (a : Int)) (.int (((ns.map D.int).length : Nat) : Int)) = .val (.bl true) := by
      rw [lt_int, ints_len, decide_eq_true (by omega)]
    have i1 : gIx (.lst (ns.map .int)) (.int (a : Int)) = .val (.int ns[a]) := ix_lst (atI_of (by omega) (by simp [h]))
    show runF 2 5 (b2 (mkO B n)) _ = _
    simp only [runF_eq, b2, l1, i1, p41, p14, p18, q1, q2, q3, m2, m3, m4, bind_ok, bind_bad, bind_rai, lift_ok, lift_rai, opRes_val, opRes_new, oR_some, oS_some, oO_some, cont_pu, cont_fr, cont_nm, sv_pu, sv_pf, sv_ob, obind_some, mVar_eq, varR_pu, varR_pf, varR_ob, mC_eq, mBin_eq, mUn_eq, mBl_eq, blR_bl, mBi_eq, mCons_eq, mNil_eq, conts_nil, conts_cons, mSeq_eq, sqR_nx, sqR_rt, sqR_br, sqR_ct, sqR_rai, mIfS_eq, mRet_eq, mDrop_eq, mSkip_eq, mBreak_eq, mCont_eq, mAsg_eq, frz1_pu, frz1_fr, frz1_frT, frz1_nm, frz_pu, frz_fr, frz_nm, frzN_pu, frzN_pf, frzN_ob, frzN_par, put1_eq, par_un, par_pu, par_obF, par_obT, par_pf, nm_pu, nm_fr, rsv_pu, rsv_fr, mStore_eq, obS_ob, intS_int, lstS_lst, mAnd_eq, mOr_eq, mNot_eq, mYes_eq, mAndV_eq, mOrV_eq, mNotV_eq, mIf_eq, mTru_eq, tru_bl, tru_lst, mChain_eq, chR_bl, mDisp_eq, frzA_eq, frzs_nil, frzs_cons, puD_nil, puD_cons, mCall_eq, fR_ret, fR_rai, argSVs_nil, argSVs_cons, arg_pu, arg_fr, arg_nm, argN_pu, argN_pf, argN_ob, nms_nil, nms_nm, nms_pu, nms_fr, retV_pu, retV_fr, retF_pu, retF_fr, retF_nm, retN_pu, retN_pf, retN_ob, back_eq, backFrom_nil, backFrom_cons, backSV_un, backSV_pu, backSV_pf, backSV_ob, backN_none, backN_some, backO_ob, backO_pf, nmAt_nil, nmAt_nm, nmAt_pu, nmAt_fr, outs_nil, outs_cons, okArg_pu, okArg_ob, mLc_eq, lcR_ok, mItV_eq, items_lst, items_tup, items_str, mRng1_eq, rng1_int, mFor_eq, loop_nx, loop_ct, loop_br, loop_rt, gtN_eq, mPar_eq, two_eq, mMtS_eq, strR_str, mSl_eq, mNoPart_eq, mPart_eq, intR_int, runF_eq, runR_nx, runR_rt, runR_rai, retR_some, noOb_nil, noOb_cons, obB_un, obB_pu, wipeS_nil, wipeS_cons, putBack_nil, putBack_cons, pbR_some, lcT_ok, lcE_ok, Option.getD_some, Option.map_some, Option.map_none, List.getElem?_cons_zero, List.getElem?_cons_succ, List.getElem?_nil, List.set_cons_zero, List.set_cons_succ, List.length_cons, List.length_nil, List.replicate, List.cons_append, List.nil_append, List.all_cons, List.all_nil, Bool.and_true, Bool.true_and, Bool.and_false, Bool.false_and, Bool.not_false, Bool.not_true, Bool.or_false, Bool.false_or, Bool.or_self, Bool.and_self, Bool.false_eq_true, if_true, if_false, Nat.reduceSub, Nat.reduceAdd, Nat.reduceEqDiff, Nat.zero_add, List.nodup_nil, List.nodup_cons, List.not_mem_nil, not_false_eq_true, and_self, and_true, true_and, reduceCtorEq, add_int, sub_int, neg_int, lt_int, le_int, gt_int, ge_int, eq_int, ne_int, len_lst, len_tup, un_eq, int_int, int_bl, abs_int, max_int, min_int, decide_true, decide_false]
    rw [ec]
  · obtain ⟨c, hc, ec⟩ := key (73 * a + 43)
    refine ⟨c, ?_, hc⟩
    have l1 : gLt (.int (a : Int)) (.int (((ns.map D.int).length : Nat) : Int)) = .val (.bl false) := by
      rw [lt_int, ints_len, decide_eq_false (by omega)]
    show runF 2 5 (b2 (mkO B n)) _ = _
    simp only [runF_eq, b2, l1, m1, p41, p14, p18, q1, q2, q3, m2, m3, m4, bind_ok, bind_bad, bind_rai, lift_ok, lift_rai, opRes_val, opRes_new, oR_some, oS_some, oO_some, cont_pu, cont_fr, cont_nm, sv_pu, sv_pf, sv_ob, obind_some, mVar_eq, varR_pu, varR_pf, varR_ob, mC_eq, mBin_eq, mUn_eq, mBl_eq, blR_bl, mBi_eq, mCons_eq, mNil_eq, conts_nil, conts_cons, mSeq_eq, sqR_nx, sqR_rt, sqR_br, sqR_ct, sqR_rai, mIfS_eq, mRet_eq, mDrop_eq, mSkip_eq, mBreak_eq, mCont_eq, mAsg_eq, frz1_pu, frz1_fr, frz1_frT, frz1_nm, frz_pu, frz_fr, frz_nm, frzN_pu, frzN_pf, frzN_ob, frzN_par, put1_eq, par_un, par_pu, par_obF, par_obT, par_pf, nm_pu, nm_fr, rsv_pu, rsv_fr, mStore_eq, obS_ob, intS_int, lstS_lst, mAnd_eq, mOr_eq, mNot_eq, mYes_eq, mAndV_eq, mOrV_eq, mNotV_eq, mIf_eq, mTru_eq, tru_bl, tru_lst, mChain_eq, chR_bl, mDisp_eq, frzA_eq, frzs_nil, frzs_cons, puD_nil, puD_cons, mCall_eq, fR_ret, fR_rai, argSVs_nil, argSVs_cons, arg_pu, arg_fr, arg_nm, argN_pu, argN_pf, argN_ob, nms_nil, nms_nm, nms_pu, nms_fr, retV_pu, retV_fr, retF_pu, retF_fr, retF_nm, retN_pu, retN_pf, retN_ob, back_eq, backFrom_nil, backFrom_cons, backSV_un, backSV_pu, backSV_pf, backSV_ob, backN_none, backN_some, backO_ob, backO_pf, nmAt_nil, nmAt_nm, nmAt_pu, nmAt_fr, outs_nil, outs_cons, okArg_pu, okArg_ob, mLc_eq, lcR_ok, mItV_eq, items_lst, items_tup, items_str, mRng1_eq, rng1_int, mFor_eq, loop_nx, loop_ct, loop_br, loop_rt, gtN_eq, mPar_eq, two_eq, mMtS_eq, strR_str, mSl_eq, mNoPart_eq, mPart_eq, intR_int, runF_eq, runR_nx, runR_rt, runR_rai, retR_some, noOb_nil, noOb_cons, obB_un, obB_pu, wipeS_nil, wipeS_cons, putBack_nil, putBack_cons, pbR_some, lcT_ok, lcE_ok, Option.getD_some, Option.map_some, Option.map_none, List.getElem?_cons_zero, List.getElem?_cons_succ, List.getElem?_nil, List.set_cons_zero, List.set_cons_succ, List.length_cons, List.length_nil, List.replicate, List.cons_append, List.nil_append, List.all_cons, List.all_nil, Bool.and_true, Bool.true_and, Bool.and_false, Bool.false_and, Bool.not_false, Bool.not_true, Bool.or_false, Bool.false_or, Bool.or_self, Bool.and_self, Bool.false_eq_true, if_true, if_false, Nat.reduceSub, Nat.reduceAdd, Nat.reduceEqDiff, Nat.zero_add, List.nodup_nil, List.nodup_cons, List.not_mem_nil, not_false_eq_true, and_self, and_true, true_and, reduceCtorEq, add_int, sub_int, neg_int, lt_int, le_int, gt_int, ge_int, eq_int, ne_int, len_lst, len_tup, un_eq, int_int, int_bl, abs_int, max_int, min_int, decide_true, decide_false]
    rw [ec]

/-! ### what is told of a value -/
/-- a value of the law: no instance, no endless text -/
def Val : D → Prop
  | .str z => z.length ≤ 1000
  | .ins _ _ _ => False
  | _ => True
def isShort : D → Bool
  | .int i => decide (0 - 10 ^ 60 < i) && decide (i < 10 ^ 60)
  | _ => false
def isName : D → Bool
  | .str z => decide (1 ≤ z.length) && decide (z.length ≤ 8) && z.cps.toList.all fun c => decide (97 ≤ c) && decide (c ≤ 122)
  | _ => false
theorem isi_int : ∀ d : D, Val d → gIsi "int" d = .val (.bl (match d with
    | .int _ => true
    | .bl _ => true
    | _ => false)) := fun d h => by
  cases d with
  | ins _ _ _ => exact h.elim
  | _ => kernel_rfl
theorem isi_bool : ∀ d : D, Val d → gIsi "bool" d = .val (.bl (match d with
    | .bl _ => true
    | _ => false)) := fun d h => by
  cases d with
  | ins _ _ _ => exact h.elim
  | _ => kernel_rfl
theorem isi_str : ∀ d : D, Val d → gIsi "str" d = .val (.bl (match d with
    | .str _ => true
    | _ => false)) := fun d h => by
  cases d with
  | ins _ _ _ => exact h.elim
  | _ => kernel_rfl
theorem f0 (n : Nat) {d : D} (h : Val d) : mkO B (n + 1) 0 [.pu d] = .ret (.pu (.bl (isShort d))) [.pu d] := by
  have h1 := isi_int d h
  have h2 := isi_bool d h
  show runF 1 1 (b0 (mkO B n)) _ = _
  cases d with
  | int i =>
    simp only at h1 h2
    simp only [runF_eq, b0, h1, h2, bind_ok, bind_bad, bind_rai, lift_ok, lift_rai, opRes_val, opRes_new, oR_some, oS_some, oO_some, cont_pu, cont_fr, cont_nm, sv_pu, sv_pf, sv_ob, obind_some, mVar_eq, varR_pu, varR_pf, varR_ob, mC_eq, mBin_eq, mUn_eq, mBl_eq, blR_bl, mBi_eq, mCons_eq, mNil_eq, conts_nil, conts_cons, mSeq_eq, sqR_nx, sqR_rt, sqR_br, sqR_ct, sqR_rai, mIfS_eq, mRet_eq, mDrop_eq, mSkip_eq, mBreak_eq, mCont_eq, mAsg_eq, frz1_pu, frz1_fr, frz1_frT, frz1_nm, frz_pu, frz_fr, frz_nm, frzN_pu, frzN_pf, frzN_ob, frzN_par, put1_eq, par_un, par_pu, par_obF, par_obT, par_pf, nm_pu, nm_fr, rsv_pu, rsv_fr, mStore_eq, obS_ob, intS_int, lstS_lst, mAnd_eq, mOr_eq, mNot_eq, mYes_eq, mAndV_eq, mOrV_eq, mNotV_eq, mIf_eq, mTru_eq, tru_bl, tru_lst, mChain_eq, chR_bl, mDisp_eq, frzA_eq, frzs_nil, frzs_cons, puD_nil, puD_cons, mCall_eq, fR_ret, fR_rai, argSVs_nil, argSVs_cons, arg_pu, arg_fr, arg_nm, argN_pu, argN_pf, argN_ob, nms_nil, nms_nm, nms_pu, nms_fr, retV_pu, retV_fr, retF_pu, retF_fr, retF_nm, retN_pu, retN_pf, retN_ob, back_eq, backFrom_nil, backFrom_cons, backSV_un, backSV_pu, backSV_pf, backSV_ob, backN_none, backN_some, backO_ob, backO_pf, nmAt_nil, nmAt_nm, nmAt_pu, nmAt_fr, outs_nil, outs_cons, okArg_pu, okArg_ob, mLc_eq, lcR_ok, mItV_eq, items_lst, items_tup, items_str, mRng1_eq, rng1_int, mFor_eq, loop_nx, loop_ct, loop_br, loop_rt, gtN_eq, mPar_eq, two_eq, mMtS_eq, strR_str, mSl_eq, mNoPart_eq, mPart_eq, intR_int, runF_eq, runR_nx, runR_rt, runR_rai, retR_some, noOb_nil, noOb_cons, obB_un, obB_pu, wipeS_nil, wipeS_cons, putBack_nil, putBack_cons, pbR_some, lcT_ok, lcE_ok, Option.getD_some, Option.map_some, Option.map_none, List.getElem?_cons_zero, List.getElem?_cons_succ, List.getElem?_nil, List.set_cons_zero, List.set_cons_succ, List.length_cons, List.length_nil, List.replicate, List.cons_append, List.nil_append, List.all_cons, List.all_nil, Bool.and_true, Bool.true_and, Bool.and_false, Bool.false_and, Bool.not_false, Bool.not_true, Bool.or_false, Bool.false_or, Bool.or_self, Bool.and_self, Bool.false_eq_true, if_true, if_false, Nat.reduceSub, Nat.reduceAdd, Nat.reduceEqDiff, Nat.zero_add, List.nodup_nil, List.nodup_cons, List.not_mem_nil, not_false_eq_true, and_self, and_true, true_and, reduceCtorEq, add_int, sub_int, neg_int, lt_int, le_int, gt_int, ge_int, eq_int, ne_int, len_lst, len_tup, un_eq, int_int, int_bl, abs_int, max_int, min_int, decide_true, decide_false]
    have e : isShort (.int i) = (decide (-999999999999999999999999999999999999999999999999999999999999 ≤ i) && decide (i ≤ 999999999999999999999999999999999999999999999999999999999999)) := by
      show (decide (0 - 10 ^ 60 < i) && decide (i < 10 ^ 60)) = _
      congr 1 <;> exact decide_eq_decide.mpr (by omega)
    rw [e]
    cases decide (-999999999999999999999999999999999999999999999999999999999999 ≤ i) <;> simp only [bind_ok, bind_bad, bind_rai, lift_ok, lift_rai, opRes_val, opRes_new, oR_some, oS_some, oO_some, cont_pu, cont_fr, cont_nm, sv_pu, sv_pf, sv_ob, obind_some, mVar_eq, varR_pu, varR_pf, varR_ob, mC_eq, mBin_eq, mUn_eq, mBl_eq, blR_bl, mBi_eq, mCons_eq, mNil_eq, conts_nil, conts_cons, mSeq_eq, sqR_nx, sqR_rt, sqR_br, sqR_ct, sqR_rai, mIfS_eq, mRet_eq, mDrop_eq, mSkip_eq, mBreak_eq, mCont_eq, mAsg_eq, frz1_pu, frz1_fr, frz1_frT, frz1_nm, frz_pu, frz_fr, frz_nm, frzN_pu, frzN_pf, frzN_ob, frzN_par, put1_eq, par_un, par_pu, par_obF, par_obT, par_pf, nm_pu, nm_fr, rsv_pu, rsv_fr, mStore_eq, obS_ob, intS_int, lstS_lst, mAnd_eq, mOr_eq, mNot_eq, mYes_eq, mAndV_eq, mOrV_eq, mNotV_eq, mIf_eq, mTru_eq, tru_bl, tru_lst, mChain_eq, chR_bl, mDisp_eq, frzA_eq, frzs_nil, frzs_cons, puD_nil, puD_cons, mCall_eq, fR_ret, fR_rai, argSVs_nil, argSVs_cons, arg_pu, arg_fr, arg_nm, argN_pu, argN_pf, argN_ob, nms_nil, nms_nm, nms_pu, nms_fr, retV_pu, retV_fr, retF_pu, retF_fr, retF_nm, retN_pu, retN_pf, retN_ob, back_eq, backFrom_nil, backFrom_cons, backSV_un, backSV_pu, backSV_pf, backSV_ob, backN_none, backN_some, backO_ob, backO_pf, nmAt_nil, nmAt_nm, nmAt_pu, nmAt_fr, outs_nil, outs_cons, okArg_pu, okArg_ob, mLc_eq, lcR_ok, mItV_eq, items_lst, items_tup, items_str, mRng1_eq, rng1_int, mFor_eq, loop_nx, loop_ct, loop_br, loop_rt, gtN_eq, mPar_eq, two_eq, mMtS_eq, strR_str, mSl_eq, mNoPart_eq, mPart_eq, intR_int, runF_eq, runR_nx, runR_rt, runR_rai, retR_some, noOb_nil, noOb_cons, obB_un, obB_pu, wipeS_nil, wipeS_cons, putBack_nil, putBack_cons, pbR_some, lcT_ok, lcE_ok, Option.getD_some, Option.map_some, Option.map_none, List.getElem?_cons_zero, List.getElem?_cons_succ, List.getElem?_nil, List.set_cons_zero, List.set_cons_succ, List.length_cons, List.length_nil, List.replicate, List.cons_append, List.nil_append, List.all_cons, List.all_nil, Bool.and_true, Bool.true_and, Bool.and_false, Bool.false_and, Bool.not_false, Bool.not_true, Bool.or_false, Bool.false_or, Bool.or_self, Bool.and_self, Bool.false_eq_true, if_true, if_false, Nat.reduceSub, Nat.reduceAdd, Nat.reduceEqDiff, Nat.zero_add, List.nodup_nil, List.nodup_cons, List.not_mem_nil, not_false_eq_true, and_self, and_true, true_and, reduceCtorEq, add_int, sub_int, neg_int, lt_int, le_int, gt_int, ge_int, eq_int, ne_int, len_lst, len_tup, un_eq, int_int, int_bl, abs_int, max_int, min_int, decide_true, decide_false]
  | bl b =>
    simp only at h1 h2
    simp only [runF_eq, b0, h1, h2, isShort, bind_ok, bind_bad, bind_rai, lift_ok, lift_rai, opRes_val, opRes_new, oR_some, oS_some, oO_some, cont_pu, cont_fr, cont_nm, sv_pu, sv_pf, sv_ob, obind_some, mVar_eq, varR_pu, varR_pf, varR_ob, mC_eq, mBin_eq, mUn_eq, mBl_eq, blR_bl, mBi_eq, mCons_eq, mNil_eq, conts_nil, conts_cons, mSeq_eq, sqR_nx, sqR_rt, sqR_br, sqR_ct, sqR_rai, mIfS_eq, mRet_eq, mDrop_eq, mSkip_eq, mBreak_eq, mCont_eq, mAsg_eq, frz1_pu, frz1_fr, frz1_frT, frz1_nm, frz_pu, frz_fr, frz_nm, frzN_pu, frzN_pf, frzN_ob, frzN_par, put1_eq, par_un, par_pu, par_obF, par_obT, par_pf, nm_pu, nm_fr, rsv_pu, rsv_fr, mStore_eq, obS_ob, intS_int, lstS_lst, mAnd_eq, mOr_eq, mNot_eq, mYes_eq, mAndV_eq, mOrV_eq, mNotV_eq, mIf_eq, mTru_eq, tru_bl, tru_lst, mChain_eq, chR_bl, mDisp_eq, frzA_eq, frzs_nil, frzs_cons, puD_nil, puD_cons, mCall_eq, fR_ret, fR_rai, argSVs_nil, argSVs_cons, arg_pu, arg_fr, arg_nm, argN_pu, argN_pf, argN_ob, nms_nil, nms_nm, nms_pu, nms_fr, retV_pu, retV_fr, retF_pu, retF_fr, retF_nm, retN_pu, retN_pf, retN_ob, back_eq, backFrom_nil, backFrom_cons, backSV_un, backSV_pu, backSV_pf, backSV_ob, backN_none, backN_some, backO_ob, backO_pf, nmAt_nil, nmAt_nm, nmAt_pu, nmAt_fr, outs_nil, outs_cons, okArg_pu, okArg_ob, mLc_eq, lcR_ok, mItV_eq, items_lst, items_tup, items_str, mRng1_eq, rng1_int, mFor_eq, loop_nx, loop_ct, loop_br, loop_rt, gtN_eq, mPar_eq, two_eq, mMtS_eq, strR_str, mSl_eq, mNoPart_eq, mPart_eq, intR_int, runF_eq, runR_nx, runR_rt, runR_rai, retR_some, noOb_nil, noOb_cons, obB_un, obB_pu, wipeS_nil, wipeS_cons, putBack_nil, putBack_cons, pbR_some, lcT_ok, lcE_ok, Option.getD_some, Option.map_some, Option.map_none, List.getElem?_cons_zero, List.getElem?_cons_succ, List.getElem?_nil, List.set_cons_zero, List.set_cons_succ, List.length_cons, List.length_nil, List.replicate, List.cons_append, List.nil_append, List.all_cons, List.all_nil, Bool.and_true, Bool.true_and, Bool.and_false, Bool.false_and, Bool.not_false, Bool.not_true, Bool.or_false, Bool.false_or, Bool.or_self, Bool.and_self, Bool.false_eq_true, if_true, if_false, Nat.reduceSub, Nat.reduceAdd, Nat.reduceEqDiff, Nat.zero_add, List.nodup_nil, List.nodup_cons, List.not_mem_nil, not_false_eq_true, and_self, and_true, true_and, reduceCtorEq, add_int, sub_int, neg_int, lt_int, le_int, gt_int, ge_int, eq_int, ne_int, len_lst, len_tup, un_eq, int_int, int_bl, abs_int, max_int, min_int, decide_true, decide_false]
  | ins _ _ _ => exact h.elim
  | _ =>
    simp only at h1 h2
    simp only [runF_eq, b0, h1, isShort, bind_ok, bind_bad, bind_rai, lift_ok, lift_rai, opRes_val, opRes_new, oR_some, oS_some, oO_some, cont_pu, cont_fr, cont_nm, sv_pu, sv_pf, sv_ob, obind_some, mVar_eq, varR_pu, varR_pf, varR_ob, mC_eq, mBin_eq, mUn_eq, mBl_eq, blR_bl, mBi_eq, mCons_eq, mNil_eq, conts_nil, conts_cons, mSeq_eq, sqR_nx, sqR_rt, sqR_br, sqR_ct, sqR_rai, mIfS_eq, mRet_eq, mDrop_eq, mSkip_eq, mBreak_eq, mCont_eq, mAsg_eq, frz1_pu, frz1_fr, frz1_frT, frz1_nm, frz_pu, frz_fr, frz_nm, frzN_pu, frzN_pf, frzN_ob, frzN_par, put1_eq, par_un, par_pu, par_obF, par_obT, par_pf, nm_pu, nm_fr, rsv_pu, rsv_fr, mStore_eq, obS_ob, intS_int, lstS_lst, mAnd_eq, mOr_eq, mNot_eq, mYes_eq, mAndV_eq, mOrV_eq, mNotV_eq, mIf_eq, mTru_eq, tru_bl, tru_lst, mChain_eq, chR_bl, mDisp_eq, frzA_eq, frzs_nil, frzs_cons, puD_nil, puD_cons, mCall_eq, fR_ret, fR_rai, argSVs_nil, argSVs_cons, arg_pu, arg_fr, arg_nm, argN_pu, argN_pf, argN_ob, nms_nil, nms_nm, nms_pu, nms_fr, retV_pu, retV_fr, retF_pu, retF_fr, retF_nm, retN_pu, retN_pf, retN_ob, back_eq, backFrom_nil, backFrom_cons, backSV_un, backSV_pu, backSV_pf, backSV_ob, backN_none, backN_some, backO_ob, backO_pf, nmAt_nil, nmAt_nm, nmAt_pu, nmAt_fr, outs_nil, outs_cons, okArg_pu, okArg_ob, mLc_eq, lcR_ok, mItV_eq, items_lst, items_tup, items_str, mRng1_eq, rng1_int, mFor_eq, loop_nx, loop_ct, loop_br, loop_rt, gtN_eq, mPar_eq, two_eq, mMtS_eq, strR_str, mSl_eq, mNoPart_eq, mPart_eq, intR_int, runF_eq, runR_nx, runR_rt, runR_rai, retR_some, noOb_nil, noOb_cons, obB_un, obB_pu, wipeS_nil, wipeS_cons, putBack_nil, putBack_cons, pbR_some, lcT_ok, lcE_ok, Option.getD_some, Option.map_some, Option.map_none, List.getElem?_cons_zero, List.getElem?_cons_succ, List.getElem?_nil, List.set_cons_zero, List.set_cons_succ, List.length_cons, List.length_nil, List.replicate, List.cons_append, List.nil_append, List.all_cons, List.all_nil, Bool.and_true, Bool.true_and, Bool.and_false, Bool.false_and, Bool.not_false, Bool.not_true, Bool.or_false, Bool.false_or, Bool.or_self, Bool.and_self, Bool.false_eq_true, if_true, if_false, Nat.reduceSub, Nat.reduceAdd, Nat.reduceEqDiff, Nat.zero_add, List.nodup_nil, List.nodup_cons, List.not_mem_nil, not_false_eq_true, and_self, and_true, true_and, reduceCtorEq, add_int, sub_int, neg_int, lt_int, le_int, gt_int, ge_int, eq_int, ne_int, len_lst, len_tup, un_eq, int_int, int_bl, abs_int, max_int, min_int, decide_true, decide_false]
theorem f7 (n : Nat) {d : D} (h : Val d) : mkO B (n + 1) 7 [.pu d] = .ret (.pu (.bl (isShort d))) [.pu d] := by
  have h1 := isi_int d h
  have h2 := isi_bool d h
  show runF 1 1 (b7 (mkO B n)) _ = _
  cases d with
  | int i =>
    simp only at h1 h2
    simp only [runF_eq, b7, h1, h2, p60, isShort, bind_ok, bind_bad, bind_rai, lift_ok, lift_rai, opRes_val, opRes_new, oR_some, oS_some, oO_some, cont_pu, cont_fr, cont_nm, sv_pu, sv_pf, sv_ob, obind_some, mVar_eq, varR_pu, varR_pf, varR_ob, mC_eq, mBin_eq, mUn_eq, mBl_eq, blR_bl, mBi_eq, mCons_eq, mNil_eq, conts_nil, conts_cons, mSeq_eq, sqR_nx, sqR_rt, sqR_br, sqR_ct, sqR_rai, mIfS_eq, mRet_eq, mDrop_eq, mSkip_eq, mBreak_eq, mCont_eq, mAsg_eq, frz1_pu, frz1_fr, frz1_frT, frz1_nm, frz_pu, frz_fr, frz_nm, frzN_pu, frzN_pf, frzN_ob, frzN_par, put1_eq, par_un, par_pu, par_obF, par_obT, par_pf, nm_pu, nm_fr, rsv_pu, rsv_fr, mStore_eq, obS_ob, intS_int, lstS_lst, mAnd_eq, mOr_eq, mNot_eq, mYes_eq, mAndV_eq, mOrV_eq, mNotV_eq, mIf_eq, mTru_eq, tru_bl, tru_lst, mChain_eq, chR_bl, mDisp_eq, frzA_eq, frzs_nil, frzs_cons, puD_nil, puD_cons, mCall_eq, fR_ret, fR_rai, argSVs_nil, argSVs_cons, arg_pu, arg_fr, arg_nm, argN_pu, argN_pf, argN_ob, nms_nil, nms_nm, nms_pu, nms_fr, retV_pu, retV_fr, retF_pu, retF_fr, retF_nm, retN_pu, retN_pf, retN_ob, back_eq, backFrom_nil, backFrom_cons, backSV_un, backSV_pu, backSV_pf, backSV_ob, backN_none, backN_some, backO_ob, backO_pf, nmAt_nil, nmAt_nm, nmAt_pu, nmAt_fr, outs_nil, outs_cons, okArg_pu, okArg_ob, mLc_eq, lcR_ok, mItV_eq, items_lst, items_tup, items_str, mRng1_eq, rng1_int, mFor_eq, loop_nx, loop_ct, loop_br, loop_rt, gtN_eq, mPar_eq, two_eq, mMtS_eq, strR_str, mSl_eq, mNoPart_eq, mPart_eq, intR_int, runF_eq, runR_nx, runR_rt, runR_rai, retR_some, noOb_nil, noOb_cons, obB_un, obB_pu, wipeS_nil, wipeS_cons, putBack_nil, putBack_cons, pbR_some, lcT_ok, lcE_ok, Option.getD_some, Option.map_some, Option.map_none, List.getElem?_cons_zero, List.getElem?_cons_succ, List.getElem?_nil, List.set_cons_zero, List.set_cons_succ, List.length_cons, List.length_nil, List.replicate, List.cons_append, List.nil_append, List.all_cons, List.all_nil, Bool.and_true, Bool.true_and, Bool.and_false, Bool.false_and, Bool.not_false, Bool.not_true, Bool.or_false, Bool.false_or, Bool.or_self, Bool.and_self, Bool.false_eq_true, if_true, if_false, Nat.reduceSub, Nat.reduceAdd, Nat.reduceEqDiff, Nat.zero_add, List.nodup_nil, List.nodup_cons, List.not_mem_nil, not_false_eq_true, and_self, and_true, true_and, reduceCtorEq, add_int, sub_int, neg_int, lt_int, le_int, gt_int, ge_int, eq_int, ne_int, len_lst, len_tup, un_eq, int_int, int_bl, abs_int, max_int, min_int, decide_true, decide_false]
    cases decide (0 - 10 ^ 60 < i) <;> simp only [p60, bind_ok, bind_bad, bind_rai, lift_ok, lift_rai, opRes_val, opRes_new, oR_some, oS_some, oO_some, cont_pu, cont_fr, cont_nm, sv_pu, sv_pf, sv_ob, obind_some, mVar_eq, varR_pu, varR_pf, varR_ob, mC_eq, mBin_eq, mUn_eq, mBl_eq, blR_bl, mBi_eq, mCons_eq, mNil_eq, conts_nil, conts_cons, mSeq_eq, sqR_nx, sqR_rt, sqR_br, sqR_ct, sqR_rai, mIfS_eq, mRet_eq, mDrop_eq, mSkip_eq, mBreak_eq, mCont_eq, mAsg_eq, frz1_pu, frz1_fr, frz1_frT, frz1_nm, frz_pu, frz_fr, frz_nm, frzN_pu, frzN_pf, frzN_ob, frzN_par, put1_eq, par_un, par_pu, par_obF, par_obT, par_pf, nm_pu, nm_fr, rsv_pu, rsv_fr, mStore_eq, obS_ob, intS_int, lstS_lst, mAnd_eq, mOr_eq, mNot_eq, mYes_eq, mAndV_eq, mOrV_eq, mNotV_eq, mIf_eq, mTru_eq, tru_bl, tru_lst, mChain_eq, chR_bl, mDisp_eq, frzA_eq, frzs_nil, frzs_cons, puD_nil, puD_cons, mCall_eq, fR_ret, fR_rai, argSVs_nil, argSVs_cons, arg_pu, arg_fr, arg_nm, argN_pu, argN_pf, argN_ob, nms_nil, nms_nm, nms_pu, nms_fr, retV_pu, retV_fr, retF_pu, retF_fr, retF_nm, retN_pu, retN_pf, retN_ob, back_eq, backFrom_nil, backFrom_cons, backSV_un, backSV_pu, backSV_pf, backSV_ob, backN_none, backN_some, backO_ob, backO_pf, nmAt_nil, nmAt_nm, nmAt_pu, nmAt_fr, outs_nil, outs_cons, okArg_pu, okArg_ob, mLc_eq, lcR_ok, mItV_eq, items_lst, items_tup, items_str, mRng1_eq, rng1_int, mFor_eq, loop_nx, loop_ct, loop_br, loop_rt, gtN_eq, mPar_eq, two_eq, mMtS_eq, strR_str, mSl_eq, mNoPart_eq, mPart_eq, intR_int, runF_eq, runR_nx, runR_rt, runR_rai, retR_some, noOb_nil, noOb_cons, obB_un, obB_pu, wipeS_nil, wipeS_cons, putBack_nil, putBack_cons, pbR_some, lcT_ok, lcE_ok, Option.getD_some, Option.map_some, Option.map_none, List.getElem?_cons_zero, List.getElem?_cons_succ, List.getElem?_nil, List.set_cons_zero, List.set_cons_succ, List.length_cons, List.length_nil, List.replicate, List.cons_append, List.nil_append, List.all_cons, List.all_nil, Bool.and_true, Bool.true_and, Bool.and_false, Bool.false_and, Bool.not_false, Bool.not_true, Bool.or_false, Bool.false_or, Bool.or_self, Bool.and_self, Bool.false_eq_true, if_true, if_false, Nat.reduceSub, Nat.reduceAdd, Nat.reduceEqDiff, Nat.zero_add, List.nodup_nil, List.nodup_cons, List.not_mem_nil, not_false_eq_true, and_self, and_true, true_and, reduceCtorEq, add_int, sub_int, neg_int, lt_int, le_int, gt_int, ge_int, eq_int, ne_int, len_lst, len_tup, un_eq, int_int, int_bl, abs_int, max_int, min_int, decide_true, decide_false]
  | bl b =>
    simp only at h1 h2
    simp only [runF_eq, b7, h1, h2, isShort, bind_ok, bind_bad, bind_rai, lift_ok, lift_rai, opRes_val, opRes_new, oR_some, oS_some, oO_some, cont_pu, cont_fr, cont_nm, sv_pu, sv_pf, sv_ob, obind_some, mVar_eq, varR_pu, varR_pf, varR_ob, mC_eq, mBin_eq, mUn_eq, mBl_eq, blR_bl, mBi_eq, mCons_eq, mNil_eq, conts_nil, conts_cons, mSeq_eq, sqR_nx, sqR_rt, sqR_br, sqR_ct, sqR_rai, mIfS_eq, mRet_eq, mDrop_eq, mSkip_eq, mBreak_eq, mCont_eq, mAsg_eq, frz1_pu, frz1_fr, frz1_frT, frz1_nm, frz_pu, frz_fr, frz_nm, frzN_pu, frzN_pf, frzN_ob, frzN_par, put1_eq, par_un, par_pu, par_obF, par_obT, par_pf, nm_pu, nm_fr, rsv_pu, rsv_fr, mStore_eq, obS_ob, intS_int, lstS_lst, mAnd_eq, mOr_eq, mNot_eq, mYes_eq, mAndV_eq, mOrV_eq, mNotV_eq, mIf_eq, mTru_eq, tru_bl, tru_lst, mChain_eq, chR_bl, mDisp_eq, frzA_eq, frzs_nil, frzs_cons, puD_nil, puD_cons, mCall_eq, fR_ret, fR_rai, argSVs_nil, argSVs_cons, arg_pu, arg_fr, arg_nm, argN_pu, argN_pf, argN_ob, nms_nil, nms_nm, nms_pu, nms_fr, retV_pu, retV_fr, retF_pu, retF_fr, retF_nm, retN_pu, retN_pf, retN_ob, back_eq, backFrom_nil, backFrom_cons, backSV_un, backSV_pu, backSV_pf, backSV_ob, backN_none, backN_some, backO_ob, backO_pf, nmAt_nil, nmAt_nm, nmAt_pu, nmAt_fr, outs_nil, outs_cons, okArg_pu, okArg_ob, mLc_eq, lcR_ok, mItV_eq, items_lst, items_tup, items_str, mRng1_eq, rng1_int, mFor_eq, loop_nx, loop_ct, loop_br, loop_rt, gtN_eq, mPar_eq, two_eq, mMtS_eq, strR_str, mSl_eq, mNoPart_eq, mPart_eq, intR_int, runF_eq, runR_nx, runR_rt, runR_rai, retR_some, noOb_nil, noOb_cons, obB_un, obB_pu, wipeS_nil, wipeS_cons, putBack_nil, putBack_cons, pbR_some, lcT_ok, lcE_ok, Option.getD_some, Option.map_some, Option.map_none, List.getElem?_cons_zero, List.getElem?_cons_succ, List.getElem?_nil, List.set_cons_zero, List.set_cons_succ, List.length_cons, List.length_nil, List.replicate, List.cons_append, List.nil_append, List.all_cons, List.all_nil, Bool.and_true, Bool.true_and, Bool.and_false, Bool.false_and, Bool.not_false, Bool.not_true, Bool.or_false, Bool.false_or, Bool.or_self, Bool.and_self, Bool.false_eq_true, if_true, if_false, Nat.reduceSub, Nat.reduceAdd, Nat.reduceEqDiff, Nat.zero_add, List.nodup_nil, List.nodup_cons, List.not_mem_nil, not_false_eq_true, and_self, and_true, true_and, reduceCtorEq, add_int, sub_int, neg_int, lt_int, le_int, gt_int, ge_int, eq_int, ne_int, len_lst, len_tup, un_eq, int_int, int_bl, abs_int, max_int, min_int, decide_true, decide_false]
  | ins _ _ _ => exact h.elim
  | _ =>
    simp only at h1 h2
    simp only [runF_eq, b7, h1, isShort, bind_ok, bind_bad, bind_rai, lift_ok, lift_rai, opRes_val, opRes_new, oR_some, oS_some, oO_some, cont_pu, cont_fr, cont_nm, sv_pu, sv_pf, sv_ob, obind_some, mVar_eq, varR_pu, varR_pf, varR_ob, mC_eq, mBin_eq, mUn_eq, mBl_eq, blR_bl, mBi_eq, mCons_eq, mNil_eq, conts_nil, conts_cons, mSeq_eq, sqR_nx, sqR_rt, sqR_br, sqR_ct, sqR_rai, mIfS_eq, mRet_eq, mDrop_eq, mSkip_eq, mBreak_eq, mCont_eq, mAsg_eq, frz1_pu, frz1_fr, frz1_frT, frz1_nm, frz_pu, frz_fr, frz_nm, frzN_pu, frzN_pf, frzN_ob, frzN_par, put1_eq, par_un, par_pu, par_obF, par_obT, par_pf, nm_pu, nm_fr, rsv_pu, rsv_fr, mStore_eq, obS_ob, intS_int, lstS_lst, mAnd_eq, mOr_eq, mNot_eq, mYes_eq, mAndV_eq, mOrV_eq, mNotV_eq, mIf_eq, mTru_eq, tru_bl, tru_lst, mChain_eq, chR_bl, mDisp_eq, frzA_eq, frzs_nil, frzs_cons, puD_nil, puD_cons, mCall_eq, fR_ret, fR_rai, argSVs_nil, argSVs_cons, arg_pu, arg_fr, arg_nm, argN_pu, argN_pf, argN_ob, nms_nil, nms_nm, nms_pu, nms_fr, retV_pu, retV_fr, retF_pu, retF_fr, retF_nm, retN_pu, retN_pf, retN_ob, back_eq, backFrom_nil, backFrom_cons, backSV_un, backSV_pu, backSV_pf, backSV_ob, backN_none, backN_some, backO_ob, backO_pf, nmAt_nil, nmAt_nm, nmAt_pu, nmAt_fr, outs_nil, outs_cons, okArg_pu, okArg_ob, mLc_eq, lcR_ok, mItV_eq, items_lst, items_tup, items_str, mRng1_eq, rng1_int, mFor_eq, loop_nx, loop_ct, loop_br, loop_rt, gtN_eq, mPar_eq, two_eq, mMtS_eq, strR_str, mSl_eq, mNoPart_eq, mPart_eq, intR_int, runF_eq, runR_nx, runR_rt, runR_rai, retR_some, noOb_nil, noOb_cons, obB_un, obB_pu, wipeS_nil, wipeS_cons, putBack_nil, putBack_cons, pbR_some, lcT_ok, lcE_ok, Option.getD_some, Option.map_some, Option.map_none, List.getElem?_cons_zero, List.getElem?_cons_succ, List.getElem?_nil, List.set_cons_zero, List.set_cons_succ, List.length_cons, List.length_nil, List.replicate, List.cons_append, List.nil_append, List.all_cons, List.all_nil, Bool.and_true, Bool.true_and, Bool.and_false, Bool.false_and, Bool.not_false, Bool.not_true, Bool.or_false, Bool.false_or, Bool.or_self, Bool.and_self, Bool.false_eq_true, if_true, if_false, Nat.reduceSub, Nat.reduceAdd, Nat.reduceEqDiff, Nat.zero_add, List.nodup_nil, List.nodup_cons, List.not_mem_nil, not_false_eq_true, and_self, and_true, true_and, reduceCtorEq, add_int, sub_int, neg_int, lt_int, le_int, gt_int, ge_int, eq_int, ne_int, len_lst, len_tup, un_eq, int_int, int_bl, abs_int, max_int, min_int, decide_true, decide_false]

/-! ### names -/
def sg (c : Nat) : D := .str ⟨#[c]⟩
theorem ea : ("a" : Str) = ⟨#[97]⟩ := by decide +kernel
theorem ez : ("z" : Str) = ⟨#[122]⟩ := by decide +kernel
def small (c : Nat) : Bool := decide (97 ≤ c) && decide (c ≤ 122)
theorem loop1 {s0 : SV} : ∀ (cs : List Nat) (acc : List D), mLcLoop (gtN 1) mYes (mChain gLe gLe (mC (.str "a")) (mVar 1) (mC (.str "z"))) [1] (cs.map sg) acc [s0, .un] = .ok (acc ++ cs.map fun c => .bl (small c)) [s0, .un]
  | [], acc => by
    show Res.ok acc _ = _
    simp
  | c :: cs, acc => by
    rw [List.map_cons, lcl_cons]
    have l1 : gLe (.str "a") (sg c) = .val (.bl (decide (97 ≤ c))) := by rw [ea]; exact le_sign
    have l2 : gLe (sg c) (.str "z") = .val (.bl (decide (c ≤ 122))) := by rw [ez]; exact le_sign
    have ih := loop1 (s0 := s0) cs (acc ++ [.bl (small c)])
    have sc : small c = (decide (97 ≤ c) && decide (c ≤ 122)) := rfl
    cases h9 : decide (97 ≤ c) with
    | true =>
      rw [h9, Bool.true_and] at sc
      rw [h9] at l1
      rw [sc] at ih
      simp only [l1, l2, lcT_ok, lcE_ok, bind_ok, bind_bad, bind_rai, lift_ok, lift_rai, opRes_val, opRes_new, oR_some, oS_some, oO_some, cont_pu, cont_fr, cont_nm, sv_pu, sv_pf, sv_ob, obind_some, mVar_eq, varR_pu, varR_pf, varR_ob, mC_eq, mBin_eq, mUn_eq, mBl_eq, blR_bl, mBi_eq, mCons_eq, mNil_eq, conts_nil, conts_cons, mSeq_eq, sqR_nx, sqR_rt, sqR_br, sqR_ct, sqR_rai, mIfS_eq, mRet_eq, mDrop_eq, mSkip_eq, mBreak_eq, mCont_eq, mAsg_eq, frz1_pu, frz1_fr, frz1_frT, frz1_nm, frz_pu, frz_fr, frz_nm, frzN_pu, frzN_pf, frzN_ob, frzN_par, put1_eq, par_un, par_pu, par_obF, par_obT, par_pf, nm_pu, nm_fr, rsv_pu, rsv_fr, mStore_eq, obS_ob, intS_int, lstS_lst, mAnd_eq, mOr_eq, mNot_eq, mYes_eq, mAndV_eq, mOrV_eq, mNotV_eq, mIf_eq, mTru_eq, tru_bl, tru_lst, mChain_eq, chR_bl, mDisp_eq, frzA_eq, frzs_nil, frzs_cons, puD_nil, puD_cons, mCall_eq, fR_ret, fR_rai, argSVs_nil, argSVs_cons, arg_pu, arg_fr, arg_nm, argN_pu, argN_pf, argN_ob, nms_nil, nms_nm, nms_pu, nms_fr, retV_pu, retV_fr, retF_pu, retF_fr, retF_nm, retN_pu, retN_pf, retN_ob, back_eq, backFrom_nil, backFrom_cons, backSV_un, backSV_pu, backSV_pf, backSV_ob, backN_none, backN_some, backO_ob, backO_pf, nmAt_nil, nmAt_nm, nmAt_pu, nmAt_fr, outs_nil, outs_cons, okArg_pu, okArg_ob, mLc_eq, lcR_ok, mItV_eq, items_lst, items_tup, items_str, mRng1_eq, rng1_int, mFor_eq, loop_nx, loop_ct, loop_br, loop_rt, gtN_eq, mPar_eq, two_eq, mMtS_eq, strR_str, mSl_eq, mNoPart_eq, mPart_eq, intR_int, runF_eq, runR_nx, runR_rt, runR_rai, retR_some, noOb_nil, noOb_cons, obB_un, obB_pu, wipeS_nil, wipeS_cons, putBack_nil, putBack_cons, pbR_some, lcT_ok, lcE_ok, Option.getD_some, Option.map_some, Option.map_none, List.getElem?_cons_zero, List.getElem?_cons_succ, List.getElem?_nil, List.set_cons_zero, List.set_cons_succ, List.length_cons, List.length_nil, List.replicate, List.cons_append, List.nil_append, List.all_cons, List.all_nil, Bool.and_true, Bool.true_and, Bool.and_false, Bool.false_and, Bool.not_false, Bool.not_true, Bool.or_false, Bool.false_or, Bool.or_self, Bool.and_self, Bool.false_eq_true, if_true, if_false, Nat.reduceSub, Nat.reduceAdd, Nat.reduceEqDiff, Nat.zero_add, List.nodup_nil, List.nodup_cons, List.not_mem_nil, not_false_eq_true, and_self, and_true, true_and, reduceCtorEq, add_int, sub_int, neg_int, lt_int, le_int, gt_int, ge_int, eq_int, ne_int, len_lst, len_tup, un_eq, int_int, int_bl, abs_int, max_int, min_int, decide_true, decide_false]
      rw [ih]
      simp [sc]
    | false =>
      rw [h9, Bool.false_and] at sc
      rw [h9] at l1
      rw [sc] at ih
      simp only [l1, lcT_ok, lcE_ok, bind_ok, bind_bad, bind_rai, lift_ok, lift_rai, opRes_val, opRes_new, oR_some, oS_some, oO_some, cont_pu, cont_fr, cont_nm, sv_pu, sv_pf, sv_ob, obind_some, mVar_eq, varR_pu, varR_pf, varR_ob, mC_eq, mBin_eq, mUn_eq, mBl_eq, blR_bl, mBi_eq, mCons_eq, mNil_eq, conts_nil, conts_cons, mSeq_eq, sqR_nx, sqR_rt, sqR_br, sqR_ct, sqR_rai, mIfS_eq, mRet_eq, mDrop_eq, mSkip_eq, mBreak_eq, mCont_eq, mAsg_eq, frz1_pu, frz1_fr, frz1_frT, frz1_nm, frz_pu, frz_fr, frz_nm, frzN_pu, frzN_pf, frzN_ob, frzN_par, put1_eq, par_un, par_pu, par_obF, par_obT, par_pf, nm_pu, nm_fr, rsv_pu, rsv_fr, mStore_eq, obS_ob, intS_int, lstS_lst, mAnd_eq, mOr_eq, mNot_eq, mYes_eq, mAndV_eq, mOrV_eq, mNotV_eq, mIf_eq, mTru_eq, tru_bl, tru_lst, mChain_eq, chR_bl, mDisp_eq, frzA_eq, frzs_nil, frzs_cons, puD_nil, puD_cons, mCall_eq, fR_ret, fR_rai, argSVs_nil, argSVs_cons, arg_pu, arg_fr, arg_nm, argN_pu, argN_pf, argN_ob, nms_nil, nms_nm, nms_pu, nms_fr, retV_pu, retV_fr, retF_pu, retF_fr, retF_nm, retN_pu, retN_pf, retN_ob, back_eq, backFrom_nil, backFrom_cons, backSV_un, backSV_pu, backSV_pf, backSV_ob, backN_none, backN_some, backO_ob, backO_pf, nmAt_nil, nmAt_nm, nmAt_pu, nmAt_fr, outs_nil, outs_cons, okArg_pu, okArg_ob, mLc_eq, lcR_ok, mItV_eq, items_lst, items_tup, items_str, mRng1_eq, rng1_int, mFor_eq, loop_nx, loop_ct, loop_br, loop_rt, gtN_eq, mPar_eq, two_eq, mMtS_eq, strR_str, mSl_eq, mNoPart_eq, mPart_eq, intR_int, runF_eq, runR_nx, runR_rt, runR_rai, retR_some, noOb_nil, noOb_cons, obB_un, obB_pu, wipeS_nil, wipeS_cons, putBack_nil, putBack_cons, pbR_some, lcT_ok, lcE_ok, Option.getD_some, Option.map_some, Option.map_none, List.getElem?_cons_zero, List.getElem?_cons_succ, List.getElem?_nil, List.set_cons_zero, List.set_cons_succ, List.length_cons, List.length_nil, List.replicate, List.cons_append, List.nil_append, List.all_cons, List.all_nil, Bool.and_true, Bool.true_and, Bool.and_false, Bool.false_and, Bool.not_false, Bool.not_true, Bool.or_false, Bool.false_or, Bool.or_self, Bool.and_self, Bool.false_eq_true, if_true, if_false, Nat.reduceSub, Nat.reduceAdd, Nat.reduceEqDiff, Nat.zero_add, List.nodup_nil, List.nodup_cons, List.not_mem_nil, not_false_eq_true, and_self, and_true, true_and, reduceCtorEq, add_int, sub_int, neg_int, lt_int, le_int, gt_int, ge_int, eq_int, ne_int, len_lst, len_tup, un_eq, int_int, int_bl, abs_int, max_int, min_int, decide_true, decide_false]
      rw [ih]
      simp [sc]
theorem all_bls {l : List Bool} : gAll [.lst (l.map .bl)] = .val (.bl (l.all id)) := by
  show (match blsOf? (l.map D.bl) with
    | some ns => Op.val (.bl (ns.all id))
    | _ => .bad) = _
  rw [blsOf_map]
theorem line1000' {z : Str} (h : z.length ≤ 1000) : z.length ≤ sizeLine := Nat.le_trans h line1000
theorem f1 (n : Nat) {d : D} (h : Val d) : mkO B (n + 1) 1 [.pu d] = .ret (.pu (.bl (isName d))) [.pu d] := by
  have h1 := isi_str d h
  show runF 1 2 (b1 (mkO B n)) _ = _
  cases d with
  | str z =>
    have hz : z.length ≤ 1000 := h
    have hl := len_str (line1000' hz)
    simp only at h1
    have c1 : ∀ i j : Int, gLe (.int i) (.int j) = .val (.bl (decide (i ≤ j))) := fun i j => le_int
    by_cases z1 : 1 ≤ z.length ∧ z.length ≤ 8
    · have d1 : decide ((1 : Int) ≤ (z.length : Int)) = true := decide_eq_true (by omega)
      have d2 : decide ((z.length : Int) ≤ 8) = true := decide_eq_true (by omega)
      have hs : ((z.cps.toList.map fun c => D.str ⟨#[c]⟩).length ≤ sizeLine) = True := by
        rw [List.length_map, Array.length_toList]
        exact eq_true (line1000' hz)
      have hp := loop1 (s0 := .pu (.str z)) z.cps.toList []
      rw [List.nil_append] at hp
      have hp' : mLcLoop (gtN 1) mYes (mChain gLe gLe (mC (.str "a")) (mVar 1) (mC (.str "z"))) [1] (z.cps.toList.map fun c => D.str ⟨#[c]⟩) [] [.pu (.str z), .un] = .ok (z.cps.toList.map fun c => .bl (small c)) [.pu (.str z), .un] := hp
      have ha : gAll [.lst (z.cps.toList.map fun c => .bl (small c))] = .val (.bl (z.cps.toList.all small)) := by
        have := all_bls (l := z.cps.toList.map small)
        rw [List.map_map, List.all_map] at this
        exact this
      simp only [runF_eq, b1, h1, hl, d1, d2, hs, hp', ha, lcR_ok, bind_ok, bind_bad, bind_rai, lift_ok, lift_rai, opRes_val, opRes_new, oR_some, oS_some, oO_some, cont_pu, cont_fr, cont_nm, sv_pu, sv_pf, sv_ob, obind_some, mVar_eq, varR_pu, varR_pf, varR_ob, mC_eq, mBin_eq, mUn_eq, mBl_eq, blR_bl, mBi_eq, mCons_eq, mNil_eq, conts_nil, conts_cons, mSeq_eq, sqR_nx, sqR_rt, sqR_br, sqR_ct, sqR_rai, mIfS_eq, mRet_eq, mDrop_eq, mSkip_eq, mBreak_eq, mCont_eq, mAsg_eq, frz1_pu, frz1_fr, frz1_frT, frz1_nm, frz_pu, frz_fr, frz_nm, frzN_pu, frzN_pf, frzN_ob, frzN_par, put1_eq, par_un, par_pu, par_obF, par_obT, par_pf, nm_pu, nm_fr, rsv_pu, rsv_fr, mStore_eq, obS_ob, intS_int, lstS_lst, mAnd_eq, mOr_eq, mNot_eq, mYes_eq, mAndV_eq, mOrV_eq, mNotV_eq, mIf_eq, mTru_eq, tru_bl, tru_lst, mChain_eq, chR_bl, mDisp_eq, frzA_eq, frzs_nil, frzs_cons, puD_nil, puD_cons, mCall_eq, fR_ret, fR_rai, argSVs_nil, argSVs_cons, arg_pu, arg_fr, arg_nm, argN_pu, argN_pf, argN_ob, nms_nil, nms_nm, nms_pu, nms_fr, retV_pu, retV_fr, retF_pu, retF_fr, retF_nm, retN_pu, retN_pf, retN_ob, back_eq, backFrom_nil, backFrom_cons, backSV_un, backSV_pu, backSV_pf, backSV_ob, backN_none, backN_some, backO_ob, backO_pf, nmAt_nil, nmAt_nm, nmAt_pu, nmAt_fr, outs_nil, outs_cons, okArg_pu, okArg_ob, mLc_eq, lcR_ok, mItV_eq, items_lst, items_tup, items_str, mRng1_eq, rng1_int, mFor_eq, loop_nx, loop_ct, loop_br, loop_rt, gtN_eq, mPar_eq, two_eq, mMtS_eq, strR_str, mSl_eq, mNoPart_eq, mPart_eq, intR_int, runF_eq, runR_nx, runR_rt, runR_rai, retR_some, noOb_nil, noOb_cons, obB_un, obB_pu, wipeS_nil, wipeS_cons, putBack_nil, putBack_cons, pbR_some, lcT_ok, lcE_ok, Option.getD_some, Option.map_some, Option.map_none, List.getElem?_cons_zero, List.getElem?_cons_succ, List.getElem?_nil, List.set_cons_zero, List.set_cons_succ, List.length_cons, List.length_nil, List.replicate, List.cons_append, List.nil_append, List.all_cons, List.all_nil, Bool.and_true, Bool.true_and, Bool.and_false, Bool.false_and, Bool.not_false, Bool.not_true, Bool.or_false, Bool.false_or, Bool.or_self, Bool.and_self, Bool.false_eq_true, if_true, if_false, Nat.reduceSub, Nat.reduceAdd, Nat.reduceEqDiff, Nat.zero_add, List.nodup_nil, List.nodup_cons, List.not_mem_nil, not_false_eq_true, and_self, and_true, true_and, reduceCtorEq, add_int, sub_int, neg_int, lt_int, le_int, gt_int, ge_int, eq_int, ne_int, len_lst, len_tup, un_eq, int_int, int_bl, abs_int, max_int, min_int, decide_true, decide_false]
      have e : isName (.str z) = z.cps.toList.all small := by
        show (decide (1 ≤ z.length) && decide (z.length ≤ 8) && z.cps.toList.all small) = _
        rw [decide_eq_true z1.1, decide_eq_true z1.2]; rfl
      rw [e]
    · have e : isName (.str z) = false := by
        show (decide (1 ≤ z.length) && decide (z.length ≤ 8) && z.cps.toList.all small) = _
        by_cases y : 1 ≤ z.length
        · rw [decide_eq_false (show ¬ z.length ≤ 8 from fun q => z1 ⟨y, q⟩)]; simp
        · rw [decide_eq_false y]; rfl
      rw [e]
      by_cases y : 1 ≤ z.length
      · have d1 : decide ((1 : Int) ≤ (z.length : Int)) = true := decide_eq_true (by omega)
        have d2 : decide ((z.length : Int) ≤ 8) = false := decide_eq_false (by omega)
        simp only [runF_eq, b1, h1, hl, d1, d2, bind_ok, bind_bad, bind_rai, lift_ok, lift_rai, opRes_val, opRes_new, oR_some, oS_some, oO_some, cont_pu, cont_fr, cont_nm, sv_pu, sv_pf, sv_ob, obind_some, mVar_eq, varR_pu, varR_pf, varR_ob, mC_eq, mBin_eq, mUn_eq, mBl_eq, blR_bl, mBi_eq, mCons_eq, mNil_eq, conts_nil, conts_cons, mSeq_eq, sqR_nx, sqR_rt, sqR_br, sqR_ct, sqR_rai, mIfS_eq, mRet_eq, mDrop_eq, mSkip_eq, mBreak_eq, mCont_eq, mAsg_eq, frz1_pu, frz1_fr, frz1_frT, frz1_nm, frz_pu, frz_fr, frz_nm, frzN_pu, frzN_pf, frzN_ob, frzN_par, put1_eq, par_un, par_pu, par_obF, par_obT, par_pf, nm_pu, nm_fr, rsv_pu, rsv_fr, mStore_eq, obS_ob, intS_int, lstS_lst, mAnd_eq, mOr_eq, mNot_eq, mYes_eq, mAndV_eq, mOrV_eq, mNotV_eq, mIf_eq, mTru_eq, tru_bl, tru_lst, mChain_eq, chR_bl, mDisp_eq, frzA_eq, frzs_nil, frzs_cons, puD_nil, puD_cons, mCall_eq, fR_ret, fR_rai, argSVs_nil, argSVs_cons, arg_pu, arg_fr, arg_nm, argN_pu, argN_pf, argN_ob, nms_nil, nms_nm, nms_pu, nms_fr, retV_pu, retV_fr, retF_pu, retF_fr, retF_nm, retN_pu, retN_pf, retN_ob, back_eq, backFrom_nil, backFrom_cons, backSV_un, backSV_pu, backSV_pf, backSV_ob, backN_none, backN_some, backO_ob, backO_pf, nmAt_nil, nmAt_nm, nmAt_pu, nmAt_fr, outs_nil, outs_cons, okArg_pu, okArg_ob, mLc_eq, lcR_ok, mItV_eq, items_lst, items_tup, items_str, mRng1_eq, rng1_int, mFor_eq, loop_nx, loop_ct, loop_br, loop_rt, gtN_eq, mPar_eq, two_eq, mMtS_eq, strR_str, mSl_eq, mNoPart_eq, mPart_eq, intR_int, runF_eq, runR_nx, runR_rt, runR_rai, retR_some, noOb_nil, noOb_cons, obB_un, obB_pu, wipeS_nil, wipeS_cons, putBack_nil, putBack_cons, pbR_some, lcT_ok, lcE_ok, Option.getD_some, Option.map_some, Option.map_none, List.getElem?_cons_zero, List.getElem?_cons_succ, List.getElem?_nil, List.set_cons_zero, List.set_cons_succ, List.length_cons, List.length_nil, List.replicate, List.cons_append, List.nil_append, List.all_cons, List.all_nil, Bool.and_true, Bool.true_and, Bool.and_false, Bool.false_and, Bool.not_false, Bool.not_true, Bool.or_false, Bool.false_or, Bool.or_self, Bool.and_self, Bool.false_eq_true, if_true, if_false, Nat.reduceSub, Nat.reduceAdd, Nat.reduceEqDiff, Nat.zero_add, List.nodup_nil, List.nodup_cons, List.not_mem_nil, not_false_eq_true, and_self, and_true, true_and, reduceCtorEq, add_int, sub_int, neg_int, lt_int, le_int, gt_int, ge_int, eq_int, ne_int, len_lst, len_tup, un_eq, int_int, int_bl, abs_int, max_int, min_int, decide_true, decide_false]
      · have d1 : decide ((1 : Int) ≤ (z.length : Int)) = false := decide_eq_false (by omega)
        simp only [runF_eq, b1, h1, hl, d1, bind_ok, bind_bad, bind_rai, lift_ok, lift_rai, opRes_val, opRes_new, oR_some, oS_some, oO_some, cont_pu, cont_fr, cont_nm, sv_pu, sv_pf, sv_ob, obind_some, mVar_eq, varR_pu, varR_pf, varR_ob, mC_eq, mBin_eq, mUn_eq, mBl_eq, blR_bl, mBi_eq, mCons_eq, mNil_eq, conts_nil, conts_cons, mSeq_eq, sqR_nx, sqR_rt, sqR_br, sqR_ct, sqR_rai, mIfS_eq, mRet_eq, mDrop_eq, mSkip_eq, mBreak_eq, mCont_eq, mAsg_eq, frz1_pu, frz1_fr, frz1_frT, frz1_nm, frz_pu, frz_fr, frz_nm, frzN_pu, frzN_pf, frzN_ob, frzN_par, put1_eq, par_un, par_pu, par_obF, par_obT, par_pf, nm_pu, nm_fr, rsv_pu, rsv_fr, mStore_eq, obS_ob, intS_int, lstS_lst, mAnd_eq, mOr_eq, mNot_eq, mYes_eq, mAndV_eq, mOrV_eq, mNotV_eq, mIf_eq, mTru_eq, tru_bl, tru_lst, mChain_eq, chR_bl, mDisp_eq, frzA_eq, frzs_nil, frzs_cons, puD_nil, puD_cons, mCall_eq, fR_ret, fR_rai, argSVs_nil, argSVs_cons, arg_pu, arg_fr, arg_nm, argN_pu, argN_pf, argN_ob, nms_nil, nms_nm, nms_pu, nms_fr, retV_pu, retV_fr, retF_pu, retF_fr, retF_nm, retN_pu, retN_pf, retN_ob, back_eq, backFrom_nil, backFrom_cons, backSV_un, backSV_pu, backSV_pf, backSV_ob, backN_none, backN_some, backO_ob, backO_pf, nmAt_nil, nmAt_nm, nmAt_pu, nmAt_fr, outs_nil, outs_cons, okArg_pu, okArg_ob, mLc_eq, lcR_ok, mItV_eq, items_lst, items_tup, items_str, mRng1_eq, rng1_int, mFor_eq, loop_nx, loop_ct, loop_br, loop_rt, gtN_eq, mPar_eq, two_eq, mMtS_eq, strR_str, mSl_eq, mNoPart_eq, mPart_eq, intR_int, runF_eq, runR_nx, runR_rt, runR_rai, retR_some, noOb_nil, noOb_cons, obB_un, obB_pu, wipeS_nil, wipeS_cons, putBack_nil, putBack_cons, pbR_some, lcT_ok, lcE_ok, Option.getD_some, Option.map_some, Option.map_none, List.getElem?_cons_zero, List.getElem?_cons_succ, List.getElem?_nil, List.set_cons_zero, List.set_cons_succ, List.length_cons, List.length_nil, List.replicate, List.cons_append, List.nil_append, List.all_cons, List.all_nil, Bool.and_true, Bool.true_and, Bool.and_false, Bool.false_and, Bool.not_false, Bool.not_true, Bool.or_false, Bool.false_or, Bool.or_self, Bool.and_self, Bool.false_eq_true, if_true, if_false, Nat.reduceSub, Nat.reduceAdd, Nat.reduceEqDiff, Nat.zero_add, List.nodup_nil, List.nodup_cons, List.not_mem_nil, not_false_eq_true, and_self, and_true, true_and, reduceCtorEq, add_int, sub_int, neg_int, lt_int, le_int, gt_int, ge_int, eq_int, ne_int, len_lst, len_tup, un_eq, int_int, int_bl, abs_int, max_int, min_int, decide_true, decide_false]
  | ins _ _ _ => exact h.elim
  | _ =>
    simp only at h1
    simp only [runF_eq, b1, h1, isName, bind_ok, bind_bad, bind_rai, lift_ok, lift_rai, opRes_val, opRes_new, oR_some, oS_some, oO_some, cont_pu, cont_fr, cont_nm, sv_pu, sv_pf, sv_ob, obind_some, mVar_eq, varR_pu, varR_pf, varR_ob, mC_eq, mBin_eq, mUn_eq, mBl_eq, blR_bl, mBi_eq, mCons_eq, mNil_eq, conts_nil, conts_cons, mSeq_eq, sqR_nx, sqR_rt, sqR_br, sqR_ct, sqR_rai, mIfS_eq, mRet_eq, mDrop_eq, mSkip_eq, mBreak_eq, mCont_eq, mAsg_eq, frz1_pu, frz1_fr, frz1_frT, frz1_nm, frz_pu, frz_fr, frz_nm, frzN_pu, frzN_pf, frzN_ob, frzN_par, put1_eq, par_un, par_pu, par_obF, par_obT, par_pf, nm_pu, nm_fr, rsv_pu, rsv_fr, mStore_eq, obS_ob, intS_int, lstS_lst, mAnd_eq, mOr_eq, mNot_eq, mYes_eq, mAndV_eq, mOrV_eq, mNotV_eq, mIf_eq, mTru_eq, tru_bl, tru_lst, mChain_eq, chR_bl, mDisp_eq, frzA_eq, frzs_nil, frzs_cons, puD_nil, puD_cons, mCall_eq, fR_ret, fR_rai, argSVs_nil, argSVs_cons, arg_pu, arg_fr, arg_nm, argN_pu, argN_pf, argN_ob, nms_nil, nms_nm, nms_pu, nms_fr, retV_pu, retV_fr, retF_pu, retF_fr, retF_nm, retN_pu, retN_pf, retN_ob, back_eq, backFrom_nil, backFrom_cons, backSV_un, backSV_pu, backSV_pf, backSV_ob, backN_none, backN_some, backO_ob, backO_pf, nmAt_nil, nmAt_nm, nmAt_pu, nmAt_fr, outs_nil, outs_cons, okArg_pu, okArg_ob, mLc_eq, lcR_ok, mItV_eq, items_lst, items_tup, items_str, mRng1_eq, rng1_int, mFor_eq, loop_nx, loop_ct, loop_br, loop_rt, gtN_eq, mPar_eq, two_eq, mMtS_eq, strR_str, mSl_eq, mNoPart_eq, mPart_eq, intR_int, runF_eq, runR_nx, runR_rt, runR_rai, retR_some, noOb_nil, noOb_cons, obB_un, obB_pu, wipeS_nil, wipeS_cons, putBack_nil, putBack_cons, pbR_some, lcT_ok, lcE_ok, Option.getD_some, Option.map_some, Option.map_none, List.getElem?_cons_zero, List.getElem?_cons_succ, List.getElem?_nil, List.set_cons_zero, List.set_cons_succ, List.length_cons, List.length_nil, List.replicate, List.cons_append, List.nil_append, List.all_cons, List.all_nil, Bool.and_true, Bool.true_and, Bool.and_false, Bool.false_and, Bool.not_false, Bool.not_true, Bool.or_false, Bool.false_or, Bool.or_self, Bool.and_self, Bool.false_eq_true, if_true, if_false, Nat.reduceSub, Nat.reduceAdd, Nat.reduceEqDiff, Nat.zero_add, List.nodup_nil, List.nodup_cons, List.not_mem_nil, not_false_eq_true, and_self, and_true, true_and, reduceCtorEq, add_int, sub_int, neg_int, lt_int, le_int, gt_int, ge_int, eq_int, ne_int, len_lst, len_tup, un_eq, int_int, int_bl, abs_int, max_int, min_int, decide_true, decide_false]
theorem loop6 {s0 : SV} : ∀ (cs : List Nat) (acc : List D), mLcLoop (gtN 1) (mBl (mBin (gIn true) (mVar 1) (mC (.str "abcdefghijklmnopqrstuvwxyz")))) (mVar 1) [1] (cs.map sg) acc [s0, .un] = .ok (acc ++ (cs.filter fun c => !small c).map sg) [s0, .un]
  | [], acc => by
    show Res.ok acc _ = _
    simp
  | c :: cs, acc => by
    rw [List.map_cons, lcl_cons]
    have e : decide (c ∈ List.range' 97 26) = small c := by
      have e : small c = decide (97 ≤ c ∧ c ≤ 122) := by unfold small; simp
      rw [e]
      exact decide_eq_decide.mpr (by rw [List.mem_range'_1]; omega)
    have l1 : gIn true (sg c) (.str "abcdefghijklmnopqrstuvwxyz") = .val (.bl (!small c)) := by
      rw [← e, ← abc]; exact notin_sign
    have ih := loop6 (s0 := s0) cs
    cases hs : small c with
    | true =>
      rw [hs] at l1
      simp only [l1, lcT_ok, lcE_ok, bind_ok, bind_bad, bind_rai, lift_ok, lift_rai, opRes_val, opRes_new, oR_some, oS_some, oO_some, cont_pu, cont_fr, cont_nm, sv_pu, sv_pf, sv_ob, obind_some, mVar_eq, varR_pu, varR_pf, varR_ob, mC_eq, mBin_eq, mUn_eq, mBl_eq, blR_bl, mBi_eq, mCons_eq, mNil_eq, conts_nil, conts_cons, mSeq_eq, sqR_nx, sqR_rt, sqR_br, sqR_ct, sqR_rai, mIfS_eq, mRet_eq, mDrop_eq, mSkip_eq, mBreak_eq, mCont_eq, mAsg_eq, frz1_pu, frz1_fr, frz1_frT, frz1_nm, frz_pu, frz_fr, frz_nm, frzN_pu, frzN_pf, frzN_ob, frzN_par, put1_eq, par_un, par_pu, par_obF, par_obT, par_pf, nm_pu, nm_fr, rsv_pu, rsv_fr, mStore_eq, obS_ob, intS_int, lstS_lst, mAnd_eq, mOr_eq, mNot_eq, mYes_eq, mAndV_eq, mOrV_eq, mNotV_eq, mIf_eq, mTru_eq, tru_bl, tru_lst, mChain_eq, chR_bl, mDisp_eq, frzA_eq, frzs_nil, frzs_cons, puD_nil, puD_cons, mCall_eq, fR_ret, fR_rai, argSVs_nil, argSVs_cons, arg_pu, arg_fr, arg_nm, argN_pu, argN_pf, argN_ob, nms_nil, nms_nm, nms_pu, nms_fr, retV_pu, retV_fr, retF_pu, retF_fr, retF_nm, retN_pu, retN_pf, retN_ob, back_eq, backFrom_nil, backFrom_cons, backSV_un, backSV_pu, backSV_pf, backSV_ob, backN_none, backN_some, backO_ob, backO_pf, nmAt_nil, nmAt_nm, nmAt_pu, nmAt_fr, outs_nil, outs_cons, okArg_pu, okArg_ob, mLc_eq, lcR_ok, mItV_eq, items_lst, items_tup, items_str, mRng1_eq, rng1_int, mFor_eq, loop_nx, loop_ct, loop_br, loop_rt, gtN_eq, mPar_eq, two_eq, mMtS_eq, strR_str, mSl_eq, mNoPart_eq, mPart_eq, intR_int, runF_eq, runR_nx, runR_rt, runR_rai, retR_some, noOb_nil, noOb_cons, obB_un, obB_pu, wipeS_nil, wipeS_cons, putBack_nil, putBack_cons, pbR_some, lcT_ok, lcE_ok, Option.getD_some, Option.map_some, Option.map_none, List.getElem?_cons_zero, List.getElem?_cons_succ, List.getElem?_nil, List.set_cons_zero, List.set_cons_succ, List.length_cons, List.length_nil, List.replicate, List.cons_append, List.nil_append, List.all_cons, List.all_nil, Bool.and_true, Bool.true_and, Bool.and_false, Bool.false_and, Bool.not_false, Bool.not_true, Bool.or_false, Bool.false_or, Bool.or_self, Bool.and_self, Bool.false_eq_true, if_true, if_false, Nat.reduceSub, Nat.reduceAdd, Nat.reduceEqDiff, Nat.zero_add, List.nodup_nil, List.nodup_cons, List.not_mem_nil, not_false_eq_true, and_self, and_true, true_and, reduceCtorEq, add_int, sub_int, neg_int, lt_int, le_int, gt_int, ge_int, eq_int, ne_int, len_lst, len_tup, un_eq, int_int, int_bl, abs_int, max_int, min_int, decide_true, decide_false]
      rw [ih]
      simp [hs]
    | false =>
      rw [hs] at l1
      simp only [l1, lcT_ok, lcE_ok, bind_ok, bind_bad, bind_rai, lift_ok, lift_rai, opRes_val, opRes_new, oR_some, oS_some, oO_some, cont_pu, cont_fr, cont_nm, sv_pu, sv_pf, sv_ob, obind_some, mVar_eq, varR_pu, varR_pf, varR_ob, mC_eq, mBin_eq, mUn_eq, mBl_eq, blR_bl, mBi_eq, mCons_eq, mNil_eq, conts_nil, conts_cons, mSeq_eq, sqR_nx, sqR_rt, sqR_br, sqR_ct, sqR_rai, mIfS_eq, mRet_eq, mDrop_eq, mSkip_eq, mBreak_eq, mCont_eq, mAsg_eq, frz1_pu, frz1_fr, frz1_frT, frz1_nm, frz_pu, frz_fr, frz_nm, frzN_pu, frzN_pf, frzN_ob, frzN_par, put1_eq, par_un, par_pu, par_obF, par_obT, par_pf, nm_pu, nm_fr, rsv_pu, rsv_fr, mStore_eq, obS_ob, intS_int, lstS_lst, mAnd_eq, mOr_eq, mNot_eq, mYes_eq, mAndV_eq, mOrV_eq, mNotV_eq, mIf_eq, mTru_eq, tru_bl, tru_lst, mChain_eq, chR_bl, mDisp_eq, frzA_eq, frzs_nil, frzs_cons, puD_nil, puD_cons, mCall_eq, fR_ret, fR_rai, argSVs_nil, argSVs_cons, arg_pu, arg_fr, arg_nm, argN_pu, argN_pf, argN_ob, nms_nil, nms_nm, nms_pu, nms_fr, retV_pu, retV_fr, retF_pu, retF_fr, retF_nm, retN_pu, retN_pf, retN_ob, back_eq, backFrom_nil, backFrom_cons, backSV_un, backSV_pu, backSV_pf, backSV_ob, backN_none, backN_some, backO_ob, backO_pf, nmAt_nil, nmAt_nm, nmAt_pu, nmAt_fr, outs_nil, outs_cons, okArg_pu, okArg_ob, mLc_eq, lcR_ok, mItV_eq, items_lst, items_tup, items_str, mRng1_eq, rng1_int, mFor_eq, loop_nx, loop_ct, loop_br, loop_rt, gtN_eq, mPar_eq, two_eq, mMtS_eq, strR_str, mSl_eq, mNoPart_eq, mPart_eq, intR_int, runF_eq, runR_nx, runR_rt, runR_rai, retR_some, noOb_nil, noOb_cons, obB_un, obB_pu, wipeS_nil, wipeS_cons, putBack_nil, putBack_cons, pbR_some, lcT_ok, lcE_ok, Option.getD_some, Option.map_some, Option.map_none, List.getElem?_cons_zero, List.getElem?_cons_succ, List.getElem?_nil, List.set_cons_zero, List.set_cons_succ, List.length_cons, List.length_nil, List.replicate, List.cons_append, List.nil_append, List.all_cons, List.all_nil, Bool.and_true, Bool.true_and, Bool.and_false, Bool.false_and, Bool.not_false, Bool.not_true, Bool.or_false, Bool.false_or, Bool.or_self, Bool.and_self, Bool.false_eq_true, if_true, if_false, Nat.reduceSub, Nat.reduceAdd, Nat.reduceEqDiff, Nat.zero_add, List.nodup_nil, List.nodup_cons, List.not_mem_nil, not_false_eq_true, and_self, and_true, true_and, reduceCtorEq, add_int, sub_int, neg_int, lt_int, le_int, gt_int, ge_int, eq_int, ne_int, len_lst, len_tup, un_eq, int_int, int_bl, abs_int, max_int, min_int, decide_true, decide_false]
      rw [ih]
      simp [hs]
theorem sgs_flat : ∀ cs : List Nat, D.flats (cs.map sg) = true
  | [] => rfl
  | c :: cs => by
    show (true && D.flats (cs.map sg)) = true
    rw [sgs_flat cs]; rfl
theorem eq_nil {cs : List Nat} : gEq false (.lst (cs.map sg)) (.lst []) = .val (.bl cs.isEmpty) := by
  unfold gEq
  rw [if_pos ⟨sgs_flat cs, rfl, Nat.le_trans (Nat.min_le_right _ _) (by decide)⟩]
  cases cs <;> rfl
theorem f6 (n : Nat) {d : D} (h : Val d) : mkO B (n + 1) 6 [.pu d] = .ret (.pu (.bl (isName d))) [.pu d] := by
  have h1 := isi_str d h
  show runF 1 2 (b6 (mkO B n)) _ = _
  cases d with
  | str z =>
    have hz : z.length ≤ 1000 := h
    have hl := len_str (line1000' hz)
    simp only at h1
    by_cases z0 : z.length = 0
    · have e : isName (.str z) = false := by
        show (decide (1 ≤ z.length) && decide (z.length ≤ 8) && z.cps.toList.all small) = _
        rw [decide_eq_false (by omega)]; rfl
      have d1 : decide ((z.length : Int) = 0) = true := decide_eq_true (by omega)
      rw [e]
      simp only [runF_eq, b6, h1, hl, d1, bind_ok, bind_bad, bind_rai, lift_ok, lift_rai, opRes_val, opRes_new, oR_some, oS_some, oO_some, cont_pu, cont_fr, cont_nm, sv_pu, sv_pf, sv_ob, obind_some, mVar_eq, varR_pu, varR_pf, varR_ob, mC_eq, mBin_eq, mUn_eq, mBl_eq, blR_bl, mBi_eq, mCons_eq, mNil_eq, conts_nil, conts_cons, mSeq_eq, sqR_nx, sqR_rt, sqR_br, sqR_ct, sqR_rai, mIfS_eq, mRet_eq, mDrop_eq, mSkip_eq, mBreak_eq, mCont_eq, mAsg_eq, frz1_pu, frz1_fr, frz1_frT, frz1_nm, frz_pu, frz_fr, frz_nm, frzN_pu, frzN_pf, frzN_ob, frzN_par, put1_eq, par_un, par_pu, par_obF, par_obT, par_pf, nm_pu, nm_fr, rsv_pu, rsv_fr, mStore_eq, obS_ob, intS_int, lstS_lst, mAnd_eq, mOr_eq, mNot_eq, mYes_eq, mAndV_eq, mOrV_eq, mNotV_eq, mIf_eq, mTru_eq, tru_bl, tru_lst, mChain_eq, chR_bl, mDisp_eq, frzA_eq, frzs_nil, frzs_cons, puD_nil, puD_cons, mCall_eq, fR_ret, fR_rai, argSVs_nil, argSVs_cons, arg_pu, arg_fr, arg_nm, argN_pu, argN_pf, argN_ob, nms_nil, nms_nm, nms_pu, nms_fr, retV_pu, retV_fr, retF_pu, retF_fr, retF_nm, retN_pu, retN_pf, retN_ob, back_eq, backFrom_nil, backFrom_cons, backSV_un, backSV_pu, backSV_pf, backSV_ob, backN_none, backN_some, backO_ob, backO_pf, nmAt_nil, nmAt_nm, nmAt_pu, nmAt_fr, outs_nil, outs_cons, okArg_pu, okArg_ob, mLc_eq, lcR_ok, mItV_eq, items_lst, items_tup, items_str, mRng1_eq, rng1_int, mFor_eq, loop_nx, loop_ct, loop_br, loop_rt, gtN_eq, mPar_eq, two_eq, mMtS_eq, strR_str, mSl_eq, mNoPart_eq, mPart_eq, intR_int, runF_eq, runR_nx, runR_rt, runR_rai, retR_some, noOb_nil, noOb_cons, obB_un, obB_pu, wipeS_nil, wipeS_cons, putBack_nil, putBack_cons, pbR_some, lcT_ok, lcE_ok, Option.getD_some, Option.map_some, Option.map_none, List.getElem?_cons_zero, List.getElem?_cons_succ, List.getElem?_nil, List.set_cons_zero, List.set_cons_succ, List.length_cons, List.length_nil, List.replicate, List.cons_append, List.nil_append, List.all_cons, List.all_nil, Bool.and_true, Bool.true_and, Bool.and_false, Bool.false_and, Bool.not_false, Bool.not_true, Bool.or_false, Bool.false_or, Bool.or_self, Bool.and_self, Bool.false_eq_true, if_true, if_false, Nat.reduceSub, Nat.reduceAdd, Nat.reduceEqDiff, Nat.zero_add, List.nodup_nil, List.nodup_cons, List.not_mem_nil, not_false_eq_true, and_self, and_true, true_and, reduceCtorEq, add_int, sub_int, neg_int, lt_int, le_int, gt_int, ge_int, eq_int, ne_int, len_lst, len_tup, un_eq, int_int, int_bl, abs_int, max_int, min_int, decide_true, decide_false]
    · have d1 : decide ((z.length : Int) = 0) = false := decide_eq_false (by omega)
      by_cases z8 : 8 < z.length
      · have e : isName (.str z) = false := by
          show (decide (1 ≤ z.length) && decide (z.length ≤ 8) && z.cps.toList.all small) = _
          rw [decide_eq_false (show ¬ z.length ≤ 8 by omega)]; simp
        have d2 : decide ((8 : Int) < (z.length : Int)) = true := decide_eq_true (by omega)
        rw [e]
        simp only [runF_eq, b6, h1, hl, d1, d2, bind_ok, bind_bad, bind_rai, lift_ok, lift_rai, opRes_val, opRes_new, oR_some, oS_some, oO_some, cont_pu, cont_fr, cont_nm, sv_pu, sv_pf, sv_ob, obind_some, mVar_eq, varR_pu, varR_pf, varR_ob, mC_eq, mBin_eq, mUn_eq, mBl_eq, blR_bl, mBi_eq, mCons_eq, mNil_eq, conts_nil, conts_cons, mSeq_eq, sqR_nx, sqR_rt, sqR_br, sqR_ct, sqR_rai, mIfS_eq, mRet_eq, mDrop_eq, mSkip_eq, mBreak_eq, mCont_eq, mAsg_eq, frz1_pu, frz1_fr, frz1_frT, frz1_nm, frz_pu, frz_fr, frz_nm, frzN_pu, frzN_pf, frzN_ob, frzN_par, put1_eq, par_un, par_pu, par_obF, par_obT, par_pf, nm_pu, nm_fr, rsv_pu, rsv_fr, mStore_eq, obS_ob, intS_int, lstS_lst, mAnd_eq, mOr_eq, mNot_eq, mYes_eq, mAndV_eq, mOrV_eq, mNotV_eq, mIf_eq, mTru_eq, tru_bl, tru_lst, mChain_eq, chR_bl, mDisp_eq, frzA_eq, frzs_nil, frzs_cons, puD_nil, puD_cons, mCall_eq, fR_ret, fR_rai, argSVs_nil, argSVs_cons, arg_pu, arg_fr, arg_nm, argN_pu, argN_pf, argN_ob, nms_nil, nms_nm, nms_pu, nms_fr, retV_pu, retV_fr, retF_pu, retF_fr, retF_nm, retN_pu, retN_pf, retN_ob, back_eq, backFrom_nil, backFrom_cons, backSV_un, backSV_pu, backSV_pf, backSV_ob, backN_none, backN_some, backO_ob, backO_pf, nmAt_nil, nmAt_nm, nmAt_pu, nmAt_fr, outs_nil, outs_cons, okArg_pu, okArg_ob, mLc_eq, lcR_ok, mItV_eq, items_lst, items_tup, items_str, mRng1_eq, rng1_int, mFor_eq, loop_nx, loop_ct, loop_br, loop_rt, gtN_eq, mPar_eq, two_eq, mMtS_eq, strR_str, mSl_eq, mNoPart_eq, mPart_eq, intR_int, runF_eq, runR_nx, runR_rt, runR_rai, retR_some, noOb_nil, noOb_cons, obB_un, obB_pu, wipeS_nil, wipeS_cons, putBack_nil, putBack_cons, pbR_some, lcT_ok, lcE_ok, Option.getD_some, Option.map_some, Option.map_none, List.getElem?_cons_zero, List.getElem?_cons_succ, List.getElem?_nil, List.set_cons_zero, List.set_cons_succ, List.length_cons, List.length_nil, List.replicate, List.cons_append, List.nil_append, List.all_cons, List.all_nil, Bool.and_true, Bool.true_and, Bool.and_false, Bool.false_and, Bool.not_false, Bool.not_true, Bool.or_false, Bool.false_or, Bool.or_self, Bool.and_self, Bool.false_eq_true, if_true, if_false, Nat.reduceSub, Nat.reduceAdd, Nat.reduceEqDiff, Nat.zero_add, List.nodup_nil, List.nodup_cons, List.not_mem_nil, not_false_eq_true, and_self, and_true, true_and, reduceCtorEq, add_int, sub_int, neg_int, lt_int, le_int, gt_int, ge_int, eq_int, ne_int, len_lst, len_tup, un_eq, int_int, int_bl, abs_int, max_int, min_int, decide_true, decide_false]
      · have d2 : decide ((8 : Int) < (z.length : Int)) = false := decide_eq_false (by omega)
        have hs : ((z.cps.toList.map fun c => D.str ⟨#[c]⟩).length ≤ sizeLine) = True := by
          rw [List.length_map, Array.length_toList]
          exact eq_true (line1000' hz)
        have hp := loop6 (s0 := .pu (.str z)) z.cps.toList []
        rw [List.nil_append] at hp
        have hp' : mLcLoop (gtN 1) (mBl (mBin (gIn true) (mVar 1) (mC (.str "abcdefghijklmnopqrstuvwxyz")))) (mVar 1) [1] (z.cps.toList.map fun c => D.str ⟨#[c]⟩) [] [.pu (.str z), .un] = .ok ((z.cps.toList.filter fun c => !small c).map sg) [.pu (.str z), .un] := hp
        simp only [runF_eq, b6, h1, hl, d1, d2, hs, hp', eq_nil, lcR_ok, bind_ok, bind_bad, bind_rai, lift_ok, lift_rai, opRes_val, opRes_new, oR_some, oS_some, oO_some, cont_pu, cont_fr, cont_nm, sv_pu, sv_pf, sv_ob, obind_some, mVar_eq, varR_pu, varR_pf, varR_ob, mC_eq, mBin_eq, mUn_eq, mBl_eq, blR_bl, mBi_eq, mCons_eq, mNil_eq, conts_nil, conts_cons, mSeq_eq, sqR_nx, sqR_rt, sqR_br, sqR_ct, sqR_rai, mIfS_eq, mRet_eq, mDrop_eq, mSkip_eq, mBreak_eq, mCont_eq, mAsg_eq, frz1_pu, frz1_fr, frz1_frT, frz1_nm, frz_pu, frz_fr, frz_nm, frzN_pu, frzN_pf, frzN_ob, frzN_par, put1_eq, par_un, par_pu, par_obF, par_obT, par_pf, nm_pu, nm_fr, rsv_pu, rsv_fr, mStore_eq, obS_ob, intS_int, lstS_lst, mAnd_eq, mOr_eq, mNot_eq, mYes_eq, mAndV_eq, mOrV_eq, mNotV_eq, mIf_eq, mTru_eq, tru_bl, tru_lst, mChain_eq, chR_bl, mDisp_eq, frzA_eq, frzs_nil, frzs_cons, puD_nil, puD_cons, mCall_eq, fR_ret, fR_rai, argSVs_nil, argSVs_cons, arg_pu, arg_fr, arg_nm, argN_pu, argN_pf, argN_ob, nms_nil, nms_nm, nms_pu, nms_fr, retV_pu, retV_fr, retF_pu, retF_fr, retF_nm, retN_pu, retN_pf, retN_ob, back_eq, backFrom_nil, backFrom_cons, backSV_un, backSV_pu, backSV_pf, backSV_ob, backN_none, backN_some, backO_ob, backO_pf, nmAt_nil, nmAt_nm, nmAt_pu, nmAt_fr, outs_nil, outs_cons, okArg_pu, okArg_ob, mLc_eq, lcR_ok, mItV_eq, items_lst, items_tup, items_str, mRng1_eq, rng1_int, mFor_eq, loop_nx, loop_ct, loop_br, loop_rt, gtN_eq, mPar_eq, two_eq, mMtS_eq, strR_str, mSl_eq, mNoPart_eq, mPart_eq, intR_int, runF_eq, runR_nx, runR_rt, runR_rai, retR_some, noOb_nil, noOb_cons, obB_un, obB_pu, wipeS_nil, wipeS_cons, putBack_nil, putBack_cons, pbR_some, lcT_ok, lcE_ok, Option.getD_some, Option.map_some, Option.map_none, List.getElem?_cons_zero, List.getElem?_cons_succ, List.getElem?_nil, List.set_cons_zero, List.set_cons_succ, List.length_cons, List.length_nil, List.replicate, List.cons_append, List.nil_append, List.all_cons, List.all_nil, Bool.and_true, Bool.true_and, Bool.and_false, Bool.false_and, Bool.not_false, Bool.not_true, Bool.or_false, Bool.false_or, Bool.or_self, Bool.and_self, Bool.false_eq_true, if_true, if_false, Nat.reduceSub, Nat.reduceAdd, Nat.reduceEqDiff, Nat.zero_add, List.nodup_nil, List.nodup_cons, List.not_mem_nil, not_false_eq_true, and_self, and_true, true_and, reduceCtorEq, add_int, sub_int, neg_int, lt_int, le_int, gt_int, ge_int, eq_int, ne_int, len_lst, len_tup, un_eq, int_int, int_bl, abs_int, max_int, min_int, decide_true, decide_false]
        have e : isName (.str z) = (z.cps.toList.filter fun c => !small c).isEmpty := by
          show (decide (1 ≤ z.length) && decide (z.length ≤ 8) && z.cps.toList.all small) = _
          rw [decide_eq_true (show 1 ≤ z.length by omega), decide_eq_true (show z.length ≤ 8 by omega)]
          show z.cps.toList.all small = _
          generalize z.cps.toList = l
          induction l with
          | nil => rfl
          | cons c l ih =>
            rw [List.all_cons, List.filter_cons]
            cases hs : small c with
            | true => simpa using ih
            | false => rfl
        rw [e]
  | ins _ _ _ => exact h.elim
  | _ =>
    simp only at h1
    simp only [runF_eq, b6, h1, isName, bind_ok, bind_bad, bind_rai, lift_ok, lift_rai, opRes_val, opRes_new, oR_some, oS_some, oO_some, cont_pu, cont_fr, cont_nm, sv_pu, sv_pf, sv_ob, obind_some, mVar_eq, varR_pu, varR_pf, varR_ob, mC_eq, mBin_eq, mUn_eq, mBl_eq, blR_bl, mBi_eq, mCons_eq, mNil_eq, conts_nil, conts_cons, mSeq_eq, sqR_nx, sqR_rt, sqR_br, sqR_ct, sqR_rai, mIfS_eq, mRet_eq, mDrop_eq, mSkip_eq, mBreak_eq, mCont_eq, mAsg_eq, frz1_pu, frz1_fr, frz1_frT, frz1_nm, frz_pu, frz_fr, frz_nm, frzN_pu, frzN_pf, frzN_ob, frzN_par, put1_eq, par_un, par_pu, par_obF, par_obT, par_pf, nm_pu, nm_fr, rsv_pu, rsv_fr, mStore_eq, obS_ob, intS_int, lstS_lst, mAnd_eq, mOr_eq, mNot_eq, mYes_eq, mAndV_eq, mOrV_eq, mNotV_eq, mIf_eq, mTru_eq, tru_bl, tru_lst, mChain_eq, chR_bl, mDisp_eq, frzA_eq, frzs_nil, frzs_cons, puD_nil, puD_cons, mCall_eq, fR_ret, fR_rai, argSVs_nil, argSVs_cons, arg_pu, arg_fr, arg_nm, argN_pu, argN_pf, argN_ob, nms_nil, nms_nm, nms_pu, nms_fr, retV_pu, retV_fr, retF_pu, retF_fr, retF_nm, retN_pu, retN_pf, retN_ob, back_eq, backFrom_nil, backFrom_cons, backSV_un, backSV_pu, backSV_pf, backSV_ob, backN_none, backN_some, backO_ob, backO_pf, nmAt_nil, nmAt_nm, nmAt_pu, nmAt_fr, outs_nil, outs_cons, okArg_pu, okArg_ob, mLc_eq, lcR_ok, mItV_eq, items_lst, items_tup, items_str, mRng1_eq, rng1_int, mFor_eq, loop_nx, loop_ct, loop_br, loop_rt, gtN_eq, mPar_eq, two_eq, mMtS_eq, strR_str, mSl_eq, mNoPart_eq, mPart_eq, intR_int, runF_eq, runR_nx, runR_rt, runR_rai, retR_some, noOb_nil, noOb_cons, obB_un, obB_pu, wipeS_nil, wipeS_cons, putBack_nil, putBack_cons, pbR_some, lcT_ok, lcE_ok, Option.getD_some, Option.map_some, Option.map_none, List.getElem?_cons_zero, List.getElem?_cons_succ, List.getElem?_nil, List.set_cons_zero, List.set_cons_succ, List.length_cons, List.length_nil, List.replicate, List.cons_append, List.nil_append, List.all_cons, List.all_nil, Bool.and_true, Bool.true_and, Bool.and_false, Bool.false_and, Bool.not_false, Bool.not_true, Bool.or_false, Bool.false_or, Bool.or_self, Bool.and_self, Bool.false_eq_true, if_true, if_false, Nat.reduceSub, Nat.reduceAdd, Nat.reduceEqDiff, Nat.zero_add, List.nodup_nil, List.nodup_cons, List.not_mem_nil, not_false_eq_true, and_self, and_true, true_and, reduceCtorEq, add_int, sub_int, neg_int, lt_int, le_int, gt_int, ge_int, eq_int, ne_int, len_lst, len_tup, un_eq, int_int, int_bl, abs_int, max_int, min_int, decide_true, decide_false]
end Jk00
end

section
set_option maxHeartbeats 1000000
namespace Jk00
open PySem PySem.Spec L2 JM

/-! ### numbers -/
theorem m6030 : gMulA (.int (10 ^ 60)) (.int (10 ^ 30)) = .val (.int (10 ^ 60 * 10 ^ 30)) := by kernel_rfl
theorem numbers (n : Nat) {m cell : Int} {c : D} (hc : Cup m c) (hm : m < 2 ^ 60) :
    ∃ ds c', mkO B (n + 2) 8 [.ob true false c, .pu (.int cell)] = .ret (.fr (.lst ds)) [.ob true false c', .pu (.int cell)] ∧ (∀ d ∈ ds, Val d) ∧ ds.length = 10 ∧ Cup (m + 1) c' := by
  obtain ⟨v, c', hs, v0, v1, hc'⟩ := sip n hc hm (t := 5) (by decide) (by decide)
  have q1 : gMod (.int cell) (.int (10 ^ 60 * 10 ^ 30)) = .val (.int (cell % (10 ^ 60 * 10 ^ 30))) := mod_int (by decide +kernel)
  refine ⟨[.int (cell % (10 ^ 60 * 10 ^ 30)), .int (0 - cell % (10 ^ 60 * 10 ^ 30)), .int (10 ^ 60 + v - 2), .int (0 - (10 ^ 60 + v - 2)), .int (10 ^ 60), .int (0 - 10 ^ 60), .int (10 ^ 60 - 1), .int (1 - 10 ^ 60), .int 0, .int (0 - 1)], c', ?_, ?_, rfl, hc'⟩
  · show runF 2 4 (b8 (mkO B (n + 1))) _ = _
    simp only [runF_eq, b8, hs, q1, p60, p30, m6030, two_eq, bind_ok, bind_bad, bind_rai, lift_ok, lift_rai, opRes_val, opRes_new, oR_some, oS_some, oO_some, cont_pu, cont_fr, cont_nm, sv_pu, sv_pf, sv_ob, obind_some, mVar_eq, varR_pu, varR_pf, varR_ob, mC_eq, mBin_eq, mUn_eq, mBl_eq, blR_bl, mBi_eq, mCons_eq, mNil_eq, conts_nil, conts_cons, mSeq_eq, sqR_nx, sqR_rt, sqR_br, sqR_ct, sqR_rai, mIfS_eq, mRet_eq, mDrop_eq, mSkip_eq, mBreak_eq, mCont_eq, mAsg_eq, frz1_pu, frz1_fr, frz1_frT, frz1_nm, frz_pu, frz_fr, frz_nm, frzN_pu, frzN_pf, frzN_ob, frzN_par, put1_eq, par_un, par_pu, par_obF, par_obT, par_pf, nm_pu, nm_fr, rsv_pu, rsv_fr, mStore_eq, obS_ob, intS_int, lstS_lst, mAnd_eq, mOr_eq, mNot_eq, mYes_eq, mAndV_eq, mOrV_eq, mNotV_eq, mIf_eq, mTru_eq, tru_bl, tru_lst, mChain_eq, chR_bl, mDisp_eq, frzA_eq, frzs_nil, frzs_cons, puD_nil, puD_cons, mCall_eq, fR_ret, fR_rai, argSVs_nil, argSVs_cons, arg_pu, arg_fr, arg_nm, argN_pu, argN_pf, argN_ob, nms_nil, nms_nm, nms_pu, nms_fr, retV_pu, retV_fr, retF_pu, retF_fr, retF_nm, retN_pu, retN_pf, retN_ob, back_eq, backFrom_nil, backFrom_cons, backSV_un, backSV_pu, backSV_pf, backSV_ob, back_out, backN_none, backN_some, backO_ob, backO_pf, nmAt_nil, nmAt_nm, nmAt_pu, nmAt_fr, outs_nil, outs_cons, okArg_pu, okArg_ob, mLc_eq, lcR_ok, mItV_eq, items_lst, items_tup, items_str, mRng1_eq, rng1_int, mFor_eq, loop_nx, loop_ct, loop_br, loop_rt, gtN_eq, mPar_eq, two_eq, mMtS_eq, strR_str, mSl_eq, mNoPart_eq, mPart_eq, intR_int, runF_eq, runR_nx, runR_rt, runR_rai, retR_some, noOb_nil, noOb_cons, obB_un, obB_pu, wipeS_nil, wipeS_cons, putBack_nil, putBack_cons, pbR_some, lcT_ok, lcE_ok, Option.getD_some, Option.map_some, Option.map_none, List.getElem?_cons_zero, List.getElem?_cons_succ, List.getElem?_nil, List.set_cons_zero, List.set_cons_succ, List.length_cons, List.length_nil, List.replicate, List.cons_append, List.nil_append, List.all_cons, List.all_nil, Bool.and_true, Bool.true_and, Bool.and_false, Bool.false_and, Bool.not_false, Bool.not_true, Bool.or_false, Bool.false_or, Bool.or_self, Bool.and_self, Bool.false_eq_true, if_true, if_false, Nat.reduceSub, Nat.reduceAdd, Nat.reduceEqDiff, Nat.zero_add, List.nodup_nil, List.nodup_cons, List.not_mem_nil, not_false_eq_true, and_self, and_true, true_and, reduceCtorEq, add_int, sub_int, neg_int, lt_int, le_int, gt_int, ge_int, eq_int, ne_int, len_lst, len_tup, un_eq, un2_eq, int_int, int_bl, abs_int, max_int, min_int, decide_true, decide_false]
  · intro d hd
    simp only [List.mem_cons, List.not_mem_nil, or_false] at hd
    rcases hd with rfl | rfl | rfl | rfl | rfl | rfl | rfl | rfl | rfl | rfl <;> exact True.intro

/-! ### texts -/
theorem loop9 (n : Nat) {s1 s2 s3 s4 s5 : SV} : ∀ (ds acc : List D) (m : Int) (c : D), Cup m c → m + ds.length < 2 ^ 60 →
    ∃ (ys : List Nat) (c' : D), mLcLoop (gtN 6) mYes (mCall (mkO B (n + 2) 5) (mCons (mVar 0) mNil)) [6] ds acc [.ob true false c, s1, s2, s3, s4, s5, .un] = .ok (acc ++ ys.map sg) [.ob true false c', s1, s2, s3, s4, s5, .un] ∧ ys.length = ds.length ∧ Cup (m + ds.length) c'
  | [], acc, m, c, hc, hm => ⟨[], c, by rw [lcl_nil]; simp, rfl, hc.mono (by simp)⟩
  | d :: ds, acc, m, c, hc, hm => by
    rw [List.length_cons] at hm
    obtain ⟨y, c1, hl, hc1⟩ := letter n hc (by omega)
    obtain ⟨ys, c2, h2, h3, h4⟩ := loop9 n (s1 := s1) (s2 := s2) (s3 := s3) (s4 := s4) (s5 := s5) ds (acc ++ [sg y]) (m + 1) c1 hc1 (by omega)
    refine ⟨y :: ys, c2, ?_, by rw [List.length_cons, List.length_cons, h3], h4.mono (by rw [List.length_cons]; omega)⟩
    rw [lcl_cons]
    simp only [hl, lcT_ok, lcE_ok, bind_ok, bind_bad, bind_rai, lift_ok, lift_rai, opRes_val, opRes_new, oR_some, oS_some, oO_some, cont_pu, cont_fr, cont_nm, sv_pu, sv_pf, sv_ob, obind_some, mVar_eq, varR_pu, varR_pf, varR_ob, mC_eq, mBin_eq, mUn_eq, mBl_eq, blR_bl, mBi_eq, mCons_eq, mNil_eq, conts_nil, conts_cons, mSeq_eq, sqR_nx, sqR_rt, sqR_br, sqR_ct, sqR_rai, mIfS_eq, mRet_eq, mDrop_eq, mSkip_eq, mBreak_eq, mCont_eq, mAsg_eq, frz1_pu, frz1_fr, frz1_frT, frz1_nm, frz_pu, frz_fr, frz_nm, frzN_pu, frzN_pf, frzN_ob, frzN_par, put1_eq, par_un, par_pu, par_obF, par_obT, par_pf, nm_pu, nm_fr, rsv_pu, rsv_fr, mStore_eq, obS_ob, intS_int, lstS_lst, mAnd_eq, mOr_eq, mNot_eq, mYes_eq, mAndV_eq, mOrV_eq, mNotV_eq, mIf_eq, mTru_eq, tru_bl, tru_lst, mChain_eq, chR_bl, mDisp_eq, frzA_eq, frzs_nil, frzs_cons, puD_nil, puD_cons, mCall_eq, fR_ret, fR_rai, argSVs_nil, argSVs_cons, arg_pu, arg_fr, arg_nm, argN_pu, argN_pf, argN_ob, nms_nil, nms_nm, nms_pu, nms_fr, retV_pu, retV_fr, retF_pu, retF_fr, retF_nm, retN_pu, retN_pf, retN_ob, back_eq, backFrom_nil, backFrom_cons, backSV_un, backSV_pu, backSV_pf, backSV_ob, back_out, backN_none, backN_some, backO_ob, backO_pf, nmAt_nil, nmAt_nm, nmAt_pu, nmAt_fr, outs_nil, outs_cons, okArg_pu, okArg_ob, mLc_eq, lcR_ok, mItV_eq, items_lst, items_tup, items_str, mRng1_eq, rng1_int, mFor_eq, loop_nx, loop_ct, loop_br, loop_rt, gtN_eq, mPar_eq, two_eq, mMtS_eq, strR_str, mSl_eq, mNoPart_eq, mPart_eq, intR_int, runF_eq, runR_nx, runR_rt, runR_rai, retR_some, noOb_nil, noOb_cons, obB_un, obB_pu, wipeS_nil, wipeS_cons, putBack_nil, putBack_cons, pbR_some, lcT_ok, lcE_ok, Option.getD_some, Option.map_some, Option.map_none, List.getElem?_cons_zero, List.getElem?_cons_succ, List.getElem?_nil, List.set_cons_zero, List.set_cons_succ, List.length_cons, List.length_nil, List.replicate, List.cons_append, List.nil_append, List.all_cons, List.all_nil, Bool.and_true, Bool.true_and, Bool.and_false, Bool.false_and, Bool.not_false, Bool.not_true, Bool.or_false, Bool.false_or, Bool.or_self, Bool.and_self, Bool.false_eq_true, if_true, if_false, Nat.reduceSub, Nat.reduceAdd, Nat.reduceEqDiff, Nat.zero_add, List.nodup_nil, List.nodup_cons, List.not_mem_nil, not_false_eq_true, and_self, and_true, true_and, reduceCtorEq, add_int, sub_int, neg_int, lt_int, le_int, gt_int, ge_int, eq_int, ne_int, len_lst, len_tup, un_eq, un2_eq, int_int, int_bl, abs_int, max_int, min_int, decide_true, decide_false]
    have h2' : mLcLoop (gtN 6) mYes (mCall (mkO B (n + 2) 5) (mCons (mVar 0) mNil)) [6] ds (acc ++ [.str ⟨#[y]⟩]) [.ob true false c1, s1, s2, s3, s4, s5, .un] = .ok (acc ++ [sg y] ++ ys.map sg) [.ob true false c2, s1, s2, s3, s4, s5, .un] := h2
    rw [h2']
    simp
theorem join_sg (ys : List Nat) (h : ys.length ≤ 20) : ∃ z : Str, gJoin (.str "") (.lst (ys.map sg)) = .val (.str z) ∧ z.length ≤ 20 := by
  have e : ys.map sg = (ys.map fun c => (⟨#[c]⟩ : Str)).map .str := by rw [List.map_map]; rfl
  have hs : ((ys.map fun c => (⟨#[c]⟩ : Str)).map (·.length)).sum = ys.length := by
    clear h e
    induction ys with
    | nil => rfl
    | cons y ys ih =>
      rw [List.map_cons, List.map_cons, List.sum_cons, ih, List.length_cons]
      show 1 + ys.length = _
      omega
  have he : ("" : Str).length = 0 := by decide +kernel
  have hj := PySem.StrLaws.join_length_le "" (ys.map fun c => (⟨#[c]⟩ : Str))
  rw [hs, he, Nat.mul_zero, Nat.add_zero, ← PySem.StrLaws.glued_eq_join] at hj
  refine ⟨Txt.join "" (ys.map fun c => (⟨#[c]⟩ : Str)), ?_, Nat.le_trans hj h⟩
  show (match strsOf? (ys.map sg) with
    | some ys => if (ys.map fun x : Str => x.length).sum + ys.length * ("" : Str).length ≤ 16777216 then Op.val (.str (Txt.join "" ys)) else .bad
    | none => .bad) = _
  rw [e, strsOf_map]
  show (if _ then _ else _) = _
  rw [if_pos]
  rw [hs, he, Nat.mul_zero]
  omega
def odds : List D := [.str "A", .str "Z", .str "7", .str " ", .str "_", .str "\n", .str "@", .str "?", .str "`", .str "{", .str ".", .str "*"]
theorem odd_one : ∀ d ∈ odds, ∃ z : Str, d = .str z ∧ z.length = 1 := by
  intro d hd
  simp only [odds, List.mem_cons, List.not_mem_nil, or_false] at hd
  rcases hd with rfl | rfl | rfl | rfl | rfl | rfl | rfl | rfl | rfl | rfl | rfl | rfl <;> exact ⟨_, rfl, by decide +kernel⟩
theorem line60 : (60 : Nat) ≤ sizeLine := by rw [sizeLine_eq]; decide
theorem add_small {x y : Str} (h : x.length + y.length ≤ 60) : gAdd (.str x) (.str y) = .val (.str (x ++ y)) := add_str (Nat.le_trans h line60)
theorem sl_small {z : Str} {lo hi : Option Int} (h : z.length ≤ 60) : gSl (.str z) lo hi = .val (.str (cutS z lo hi)) := sl_str' (Nat.le_trans h line60)
theorem turn9 (n : Nat) {m : Int} {c t : D} {fs : List D} {s2 s3 s4 s5 : SV} (hc : Cup m c) (hm : m + 20 < 2 ^ 60) (hf : fs.length ≤ 100) (hv : ∀ d ∈ fs, Val d) (p2 : s2.isPar = false) (p3 : s3.isPar = false) (p4 : s4.isPar = false) (p5 : s5.isPar = false) :
    ∃ c' fs' a b e g, b9_f0 (mkO B (n + 3)) [.ob true false c, .ob false false (.lst fs), .pu t, s3, s4, s5, .un] = .nx [.ob true false c', .ob false false (.lst fs'), .pu a, .pu b, .pu e, .pu g, .un] ∧ Cup (m + 20) c' ∧ fs'.length = fs.length + 3 ∧ ∀ d ∈ fs', Val d := by
  obtain ⟨v, c1, hs1, v0, v1, hc1⟩ := sip (n + 2) hc (by omega) (t := 11) (by decide) (by decide)
  have hr : -(2 ^ 62) ≤ v ∧ v < 2 ^ 62 := by omega
  obtain ⟨ys, c2, hl, hy, hc2⟩ := loop9 (n + 1) (s1 := .ob false false (.lst fs)) (s2 := .pu t) (s3 := s3) (s4 := s4) (s5 := s5) ((List.range v.toNat).map fun i => .int (i : Nat)) [] (m + 1) c1 hc1 (by simp; omega)
  rw [List.length_map, List.length_range] at hy hc2
  rw [List.nil_append] at hl
  obtain ⟨z, hj, hz⟩ := join_sg ys (by omega)
  have hlen : (((List.range v.toNat).map fun i => D.int (i : Nat)).length ≤ sizeLine) = True := by
    rw [List.length_map, List.length_range]
    exact eq_true (Nat.le_trans (show v.toNat ≤ 60 by omega) line60)
  obtain ⟨w, c3, hs2, w0, w1, hc3⟩ := sip (n + 2) hc2 (by omega) (t := (z.length : Int) + 1) (by omega) (by omega)
  obtain ⟨o, c4, ho, hs3, hc4⟩ := select (n + 1) (ds := odds) hc3 (by omega) (by decide) (by decide)
  obtain ⟨oz, rfl, ol⟩ := odd_one o ho
  have zl : gLen (.str z) = .val (.int z.length) := len_str (Nat.le_trans (show z.length ≤ 60 by omega) line60)
  have k1 : (cutS z none (some w)).length ≤ 20 := Nat.le_trans (cutS_length _ _ _) hz
  have k2 : (cutS z (some w) none).length ≤ 20 := Nat.le_trans (cutS_length _ _ _) hz
  have k3 : (cutS z (some (w + 1)) none).length ≤ 20 := Nat.le_trans (cutS_length _ _ _) hz
  have sl : ∀ lo hi, gSl (.str z) lo hi = .val (.str (cutS z lo hi)) := fun lo hi => sl_small (by omega)
  have a1 : gAdd (.str (cutS z none (some w))) (.str oz) = .val (.str (cutS z none (some w) ++ oz)) := add_small (by omega)
  have ln : (cutS z none (some w) ++ oz).length ≤ 21 := by rw [PySem.Str.length_append]; omega
  have a2 : gAdd (.str (cutS z none (some w) ++ oz)) (.str (cutS z (some w) none)) = .val (.str (cutS z none (some w) ++ oz ++ cutS z (some w) none)) := add_small (by omega)
  have a3 : gAdd (.str (cutS z none (some w) ++ oz)) (.str (cutS z (some (w + 1)) none)) = .val (.str (cutS z none (some w) ++ oz ++ cutS z (some (w + 1)) none)) := add_small (by omega)
  have a4 : gAdd (.lst fs) (.lst [.str z, .str (cutS z none (some w) ++ oz ++ cutS z (some w) none), .str (cutS z none (some w) ++ oz ++ cutS z (some (w + 1)) none)]) = .new (.lst (fs ++ [.str z, .str (cutS z none (some w) ++ oz ++ cutS z (some w) none), .str (cutS z none (some w) ++ oz ++ cutS z (some (w + 1)) none)])) := add_lst (Nat.le_trans (show fs.length + 3 ≤ 1000 by omega) line1000)
  refine ⟨c4, fs ++ [.str z, .str (cutS z none (some w) ++ oz ++ cutS z (some w) none), .str (cutS z none (some w) ++ oz ++ cutS z (some (w + 1)) none)], t, .str z, .int w, .str oz, ?_, hc4.mono (by omega), by simp, ?_⟩
  · have hs3' : mkO B (n + 3) 4 [.ob true false c3, .ob true false (.lst [.str "A", .str "Z", .str "7", .str " ", .str "_", .str "\n", .str "@", .str "?", .str "`", .str "{", .str ".", .str "*"])] = .ret (.pu (.str oz)) [.ob true false c4, .ob true false (.lst [.str "A", .str "Z", .str "7", .str " ", .str "_", .str "\n", .str "@", .str "?", .str "`", .str "{", .str ".", .str "*"])] := hs3
    have hs1' : mkO B (n + 3) 3 _ = _ := hs1
    have hs2' : mkO B (n + 3) 3 _ = _ := hs2
    have hl' : mLcLoop (gtN 6) mYes (mCall (mkO B (n + 3) 5) (mCons (mVar 0) mNil)) _ _ _ _ = _ := hl
    simp only [b9_f0, hs1', hs2', hl', hr, hj, hlen, lcR_ok, p3, p4, p5, zl, hs3', sl, a1, a2, a3, a4, intR_int, strR_str, rng1_int, bind_ok, bind_bad, bind_rai, lift_ok, lift_rai, opRes_val, opRes_new, oR_some, oS_some, oO_some, cont_pu, cont_fr, cont_nm, sv_pu, sv_pf, sv_ob, obind_some, mVar_eq, varR_pu, varR_pf, varR_ob, mC_eq, mBin_eq, mUn_eq, mBl_eq, blR_bl, mBi_eq, mCons_eq, mNil_eq, conts_nil, conts_cons, mSeq_eq, sqR_nx, sqR_rt, sqR_br, sqR_ct, sqR_rai, mIfS_eq, mRet_eq, mDrop_eq, mSkip_eq, mBreak_eq, mCont_eq, mAsg_eq, frz1_pu, frz1_fr, frz1_frT, frz1_nm, frz_pu, frz_fr, frz_nm, frzN_pu, frzN_pf, frzN_ob, frzN_par, put1_eq, par_un, par_pu, par_obF, par_obT, par_pf, nm_pu, nm_fr, rsv_pu, rsv_fr, mStore_eq, obS_ob, intS_int, lstS_lst, mAnd_eq, mOr_eq, mNot_eq, mYes_eq, mAndV_eq, mOrV_eq, mNotV_eq, mIf_eq, mTru_eq, tru_bl, tru_lst, mChain_eq, chR_bl, mDisp_eq, frzA_eq, frzs_nil, frzs_cons, puD_nil, puD_cons, mCall_eq, fR_ret, fR_rai, argSVs_nil, argSVs_cons, arg_pu, arg_fr, arg_nm, argN_pu, argN_pf, argN_ob, nms_nil, nms_nm, nms_pu, nms_fr, retV_pu, retV_fr, retF_pu, retF_fr, retF_nm, retN_pu, retN_pf, retN_ob, back_eq, backFrom_nil, backFrom_cons, backSV_un, backSV_pu, backSV_pf, backSV_ob, back_out, backN_none, backN_some, backO_ob, backO_pf, nmAt_nil, nmAt_nm, nmAt_pu, nmAt_fr, outs_nil, outs_cons, okArg_pu, okArg_ob, mLc_eq, lcR_ok, mItV_eq, items_lst, items_tup, items_str, mRng1_eq, rng1_int, mFor_eq, loop_nx, loop_ct, loop_br, loop_rt, gtN_eq, mPar_eq, two_eq, mMtS_eq, strR_str, mSl_eq, mNoPart_eq, mPart_eq, intR_int, runF_eq, runR_nx, runR_rt, runR_rai, retR_some, noOb_nil, noOb_cons, obB_un, obB_pu, wipeS_nil, wipeS_cons, putBack_nil, putBack_cons, pbR_some, lcT_ok, lcE_ok, Option.getD_some, Option.map_some, Option.map_none, List.getElem?_cons_zero, List.getElem?_cons_succ, List.getElem?_nil, List.set_cons_zero, List.set_cons_succ, List.length_cons, List.length_nil, List.replicate, List.cons_append, List.nil_append, List.all_cons, List.all_nil, Bool.and_true, Bool.true_and, Bool.and_false, Bool.false_and, Bool.not_false, Bool.not_true, Bool.or_false, Bool.false_or, Bool.or_self, Bool.and_self, Bool.false_eq_true, if_true, if_false, Nat.reduceSub, Nat.reduceAdd, Nat.reduceEqDiff, Nat.zero_add, List.nodup_nil, List.nodup_cons, List.not_mem_nil, not_false_eq_true, and_self, and_true, true_and, reduceCtorEq, add_int, sub_int, neg_int, lt_int, le_int, gt_int, ge_int, eq_int, ne_int, len_lst, len_tup, un_eq, un2_eq, int_int, int_bl, abs_int, max_int, min_int, decide_true, decide_false]
  · intro d hd
    rcases List.mem_append.mp hd with hd | hd
    · exact hv d hd
    · simp only [List.mem_cons, List.not_mem_nil, or_false] at hd
      rcases hd with rfl | rfl | rfl
      · show z.length ≤ 1000
        omega
      · show (cutS z none (some w) ++ oz ++ cutS z (some w) none).length ≤ 1000
        rw [PySem.Str.length_append]; omega
      · show (cutS z none (some w) ++ oz ++ cutS z (some (w + 1)) none).length ≤ 1000
        rw [PySem.Str.length_append]; omega
end Jk00
end

section
set_option maxHeartbeats 1000000
namespace Jk00
open PySem PySem.Spec L2 JM

theorem turns9 (n : Nat) : ∀ (ds : List D) (m : Int) (c : D) (fs : List D) (s2 s3 s4 s5 : SV), Cup m c → m + 20 * ds.length < 2 ^ 60 → fs.length + 3 * ds.length ≤ 100 → (∀ d ∈ fs, Val d) → s2.isPar = false → s3.isPar = false → s4.isPar = false → s5.isPar = false →
    ∃ c' fs' r2 r3 r4 r5, mLoop (gtN 2) (b9_f0 (mkO B (n + 3))) ds [.ob true false c, .ob false false (.lst fs), s2, s3, s4, s5, .un] = .nx [.ob true false c', .ob false false (.lst fs'), r2, r3, r4, r5, .un] ∧ Cup (m + 20 * ds.length) c' ∧ fs'.length = fs.length + 3 * ds.length ∧ ∀ d ∈ fs', Val d
  | [], m, c, fs, s2, s3, s4, s5, hc, hm, hf, hv, p2, p3, p4, p5 => ⟨c, fs, s2, s3, s4, s5, by rw [mLoop_nil], hc.mono (by simp), by simp, hv⟩
  | d :: ds, m, c, fs, s2, s3, s4, s5, hc, hm, hf, hv, p2, p3, p4, p5 => by
    rw [List.length_cons] at hm hf
    obtain ⟨c1, fs1, a, b, e, g, h1, hc1, hl1, hv1⟩ := turn9 n (t := d) (s2 := s2) hc (by omega) (by omega) hv p2 p3 p4 p5
    obtain ⟨c2, fs2, r2, r3, r4, r5, h2, hc2, hl2, hv2⟩ := turns9 n ds (m + 20) c1 fs1 (.pu a) (.pu b) (.pu e) (.pu g) hc1 (by omega) (by omega) hv1 rfl rfl rfl rfl
    refine ⟨c2, fs2, r2, r3, r4, r5, ?_, hc2.mono (by rw [List.length_cons]; omega), by rw [hl2, hl1, List.length_cons]; omega, hv2⟩
    rw [mLoop_cons]
    simp only [p2, h1, h2, bind_ok, bind_bad, bind_rai, lift_ok, lift_rai, opRes_val, opRes_new, oR_some, oS_some, oO_some, cont_pu, cont_fr, cont_nm, sv_pu, sv_pf, sv_ob, obind_some, mVar_eq, varR_pu, varR_pf, varR_ob, mC_eq, mBin_eq, mUn_eq, mBl_eq, blR_bl, mBi_eq, mCons_eq, mNil_eq, conts_nil, conts_cons, mSeq_eq, sqR_nx, sqR_rt, sqR_br, sqR_ct, sqR_rai, mIfS_eq, mRet_eq, mDrop_eq, mSkip_eq, mBreak_eq, mCont_eq, mAsg_eq, frz1_pu, frz1_fr, frz1_frT, frz1_nm, frz_pu, frz_fr, frz_nm, frzN_pu, frzN_pf, frzN_ob, frzN_par, put1_eq, par_un, par_pu, par_obF, par_obT, par_pf, nm_pu, nm_fr, rsv_pu, rsv_fr, mStore_eq, obS_ob, intS_int, lstS_lst, mAnd_eq, mOr_eq, mNot_eq, mYes_eq, mAndV_eq, mOrV_eq, mNotV_eq, mIf_eq, mTru_eq, tru_bl, tru_lst, mChain_eq, chR_bl, mDisp_eq, mDct_eq, mAll_nil, mAll_cons, keyD_inr, keyD_inl, List.map_cons, List.map_nil, frzA_eq, frzs_nil, frzs_cons, puD_nil, puD_cons, mCall_eq, fR_ret, fR_rai, argSVs_nil, argSVs_cons, arg_pu, arg_fr, arg_nm, argN_pu, argN_pf, argN_ob, nms_nil, nms_nm, nms_pu, nms_fr, retV_pu, retV_fr, retF_pu, retF_fr, retF_nm, retN_pu, retN_pf, retN_ob, back_eq, backFrom_nil, backFrom_cons, backSV_un, backSV_pu, backSV_pf, backSV_ob, back_out, backN_none, backN_some, backO_ob, backO_pf, nmAt_nil, nmAt_nm, nmAt_pu, nmAt_fr, outs_nil, outs_cons, okArg_pu, okArg_ob, mLc_eq, lcR_ok, mItV_eq, items_lst, items_tup, items_str, mRng1_eq, rng1_int, mFor_eq, loop_nx, loop_ct, loop_br, loop_rt, gtN_eq, mPar_eq, two_eq, mMtS_eq, strR_str, mSl_eq, mNoPart_eq, mPart_eq, intR_int, runF_eq, runR_nx, runR_rt, runR_rai, retR_some, noOb_nil, noOb_cons, obB_un, obB_pu, wipeS_nil, wipeS_cons, putBack_nil, putBack_cons, pbR_some, lcT_ok, lcE_ok, Option.getD_some, Option.map_some, Option.map_none, List.getElem?_cons_zero, List.getElem?_cons_succ, List.getElem?_nil, List.set_cons_zero, List.set_cons_succ, List.length_cons, List.length_nil, List.replicate, List.cons_append, List.nil_append, List.all_cons, List.all_nil, Bool.and_true, Bool.true_and, Bool.and_false, Bool.false_and, Bool.not_false, Bool.not_true, Bool.or_false, Bool.false_or, Bool.or_self, Bool.and_self, Bool.false_eq_true, if_true, if_false, Nat.reduceSub, Nat.reduceAdd, Nat.reduceEqDiff, Nat.zero_add, List.nodup_nil, List.nodup_cons, List.not_mem_nil, not_false_eq_true, and_self, and_true, true_and, reduceCtorEq, add_int, sub_int, neg_int, lt_int, le_int, gt_int, ge_int, eq_int, ne_int, len_lst, len_tup, un_eq, un2_eq, int_int, int_bl, abs_int, max_int, min_int, decide_true, decide_false]
theorem r4 : ((List.range (Int.toNat 4)).map fun i => D.int (i : Nat)) = [.int 0, .int 1, .int 2, .int 3] := by kernel_rfl
theorem b4_ : (-(2 ^ 62) ≤ (4 : Int) ∧ (4 : Int) < 2 ^ 62) = True := eq_true (by decide)
theorem texts (n : Nat) {m : Int} {c : D} (hc : Cup m c) (hm : m + 80 < 2 ^ 60) :
    ∃ c' fs, mkO B (n + 4) 9 [.ob true false c] = .ret (.fr (.lst fs)) [.ob true false c'] ∧ Cup (m + 80) c' ∧ fs.length = 12 ∧ ∀ d ∈ fs, Val d := by
  obtain ⟨c1, fs1, r2, r3, r4', r5, h, hc1, hl1, hv1⟩ := turns9 n [.int 0, .int 1, .int 2, .int 3] m c [] .un .un .un .un hc (by simp; omega) (by decide) (fun d hd => by simp at hd) rfl rfl rfl rfl
  refine ⟨c1, fs1, ?_, hc1.mono (by simp), by simpa using hl1, hv1⟩
  show runF 1 7 (b9 (mkO B (n + 3))) _ = _
  simp only [runF_eq, b9, rng1_int, b4_, r4, h, bind_ok, bind_bad, bind_rai, lift_ok, lift_rai, opRes_val, opRes_new, oR_some, oS_some, oO_some, cont_pu, cont_fr, cont_nm, sv_pu, sv_pf, sv_ob, obind_some, mVar_eq, varR_pu, varR_pf, varR_ob, mC_eq, mBin_eq, mUn_eq, mBl_eq, blR_bl, mBi_eq, mCons_eq, mNil_eq, conts_nil, conts_cons, mSeq_eq, sqR_nx, sqR_rt, sqR_br, sqR_ct, sqR_rai, mIfS_eq, mRet_eq, mDrop_eq, mSkip_eq, mBreak_eq, mCont_eq, mAsg_eq, frz1_pu, frz1_fr, frz1_frT, frz1_nm, frz_pu, frz_fr, frz_nm, frzN_pu, frzN_pf, frzN_ob, frzN_par, put1_eq, par_un, par_pu, par_obF, par_obT, par_pf, nm_pu, nm_fr, rsv_pu, rsv_fr, mStore_eq, obS_ob, intS_int, lstS_lst, mAnd_eq, mOr_eq, mNot_eq, mYes_eq, mAndV_eq, mOrV_eq, mNotV_eq, mIf_eq, mTru_eq, tru_bl, tru_lst, mChain_eq, chR_bl, mDisp_eq, mDct_eq, mAll_nil, mAll_cons, keyD_inr, keyD_inl, List.map_cons, List.map_nil, frzA_eq, frzs_nil, frzs_cons, puD_nil, puD_cons, mCall_eq, fR_ret, fR_rai, argSVs_nil, argSVs_cons, arg_pu, arg_fr, arg_nm, argN_pu, argN_pf, argN_ob, nms_nil, nms_nm, nms_pu, nms_fr, retV_pu, retV_fr, retF_pu, retF_fr, retF_nm, retN_pu, retN_pf, retN_ob, back_eq, backFrom_nil, backFrom_cons, backSV_un, backSV_pu, backSV_pf, backSV_ob, back_out, backN_none, backN_some, backO_ob, backO_pf, nmAt_nil, nmAt_nm, nmAt_pu, nmAt_fr, outs_nil, outs_cons, okArg_pu, okArg_ob, mLc_eq, lcR_ok, mItV_eq, items_lst, items_tup, items_str, mRng1_eq, rng1_int, mFor_eq, loop_nx, loop_ct, loop_br, loop_rt, gtN_eq, mPar_eq, two_eq, mMtS_eq, strR_str, mSl_eq, mNoPart_eq, mPart_eq, intR_int, runF_eq, runR_nx, runR_rt, runR_rai, retR_some, noOb_nil, noOb_cons, obB_un, obB_pu, wipeS_nil, wipeS_cons, putBack_nil, putBack_cons, pbR_some, lcT_ok, lcE_ok, Option.getD_some, Option.map_some, Option.map_none, List.getElem?_cons_zero, List.getElem?_cons_succ, List.getElem?_nil, List.set_cons_zero, List.set_cons_succ, List.length_cons, List.length_nil, List.replicate, List.cons_append, List.nil_append, List.all_cons, List.all_nil, Bool.and_true, Bool.true_and, Bool.and_false, Bool.false_and, Bool.not_false, Bool.not_true, Bool.or_false, Bool.false_or, Bool.or_self, Bool.and_self, Bool.false_eq_true, if_true, if_false, Nat.reduceSub, Nat.reduceAdd, Nat.reduceEqDiff, Nat.zero_add, List.nodup_nil, List.nodup_cons, List.not_mem_nil, not_false_eq_true, and_self, and_true, true_and, reduceCtorEq, add_int, sub_int, neg_int, lt_int, le_int, gt_int, ge_int, eq_int, ne_int, len_lst, len_tup, un_eq, un2_eq, int_int, int_bl, abs_int, max_int, min_int, decide_true, decide_false]

/-! ### a value -/
theorem rep2 (a b : Bool) : ∃ z : Str, gRepr (.lst [.bl a, .bl b]) = .val (.str z) := by
  cases a <;> cases b <;> exact ⟨_, repr_ok (by decide +kernel)⟩
theorem value10 (n : Nat) {d : D} (h : Val d) {q0 q1 q2 q3 q4 q5 s7 s8 : SV} (p7 : s7.isPar = false) (p8 : s8.isPar = false) :
    b10_f0 (mkO B (n + 1)) [q0, q1, q2, q3, q4, q5, .pu d, s7, s8] = .nx [q0, q1, q2, q3, q4, q5, .pu d, .ob false false (.lst [.bl (isShort d), .bl (isName d)]), .ob false false (.lst [.bl (isShort d), .bl (isName d)])] := by
  obtain ⟨z, hz⟩ := rep2 (isShort d) (isName d)
  have e : (!decide (z = z)) = false := by simp
  simp only [b10_f0, f0 n h, f1 n h, f6 n h, f7 n h, p7, p8, hz, ne_str, e, bind_ok, bind_bad, bind_rai, lift_ok, lift_rai, opRes_val, opRes_new, oR_some, oS_some, oO_some, cont_pu, cont_fr, cont_nm, sv_pu, sv_pf, sv_ob, obind_some, mVar_eq, varR_pu, varR_pf, varR_ob, mC_eq, mBin_eq, mUn_eq, mBl_eq, blR_bl, mBi_eq, mCons_eq, mNil_eq, conts_nil, conts_cons, mSeq_eq, sqR_nx, sqR_rt, sqR_br, sqR_ct, sqR_rai, mIfS_eq, mRet_eq, mDrop_eq, mSkip_eq, mBreak_eq, mCont_eq, mAsg_eq, frz1_pu, frz1_fr, frz1_frT, frz1_nm, frz_pu, frz_fr, frz_nm, frzN_pu, frzN_pf, frzN_ob, frzN_par, put1_eq, par_un, par_pu, par_obF, par_obT, par_pf, nm_pu, nm_fr, rsv_pu, rsv_fr, mStore_eq, obS_ob, intS_int, lstS_lst, mAnd_eq, mOr_eq, mNot_eq, mYes_eq, mAndV_eq, mOrV_eq, mNotV_eq, mIf_eq, mTru_eq, tru_bl, tru_lst, mChain_eq, chR_bl, mDisp_eq, mDct_eq, mAll_nil, mAll_cons, keyD_inr, keyD_inl, List.map_cons, List.map_nil, frzA_eq, frzs_nil, frzs_cons, puD_nil, puD_cons, mCall_eq, fR_ret, fR_rai, argSVs_nil, argSVs_cons, arg_pu, arg_fr, arg_nm, argN_pu, argN_pf, argN_ob, nms_nil, nms_nm, nms_pu, nms_fr, retV_pu, retV_fr, retF_pu, retF_fr, retF_nm, retN_pu, retN_pf, retN_ob, back_eq, backFrom_nil, backFrom_cons, backSV_un, backSV_pu, backSV_pf, backSV_ob, back_out, backN_none, backN_some, backO_ob, backO_pf, nmAt_nil, nmAt_nm, nmAt_pu, nmAt_fr, outs_nil, outs_cons, okArg_pu, okArg_ob, mLc_eq, lcR_ok, mItV_eq, items_lst, items_tup, items_str, mRng1_eq, rng1_int, mFor_eq, loop_nx, loop_ct, loop_br, loop_rt, gtN_eq, mPar_eq, two_eq, mMtS_eq, strR_str, mSl_eq, mNoPart_eq, mPart_eq, intR_int, runF_eq, runR_nx, runR_rt, runR_rai, retR_some, noOb_nil, noOb_cons, obB_un, obB_pu, wipeS_nil, wipeS_cons, putBack_nil, putBack_cons, pbR_some, lcT_ok, lcE_ok, Option.getD_some, Option.map_some, Option.map_none, List.getElem?_cons_zero, List.getElem?_cons_succ, List.getElem?_nil, List.set_cons_zero, List.set_cons_succ, List.length_cons, List.length_nil, List.replicate, List.cons_append, List.nil_append, List.all_cons, List.all_nil, Bool.and_true, Bool.true_and, Bool.and_false, Bool.false_and, Bool.not_false, Bool.not_true, Bool.or_false, Bool.false_or, Bool.or_self, Bool.and_self, Bool.false_eq_true, if_true, if_false, Nat.reduceSub, Nat.reduceAdd, Nat.reduceEqDiff, Nat.zero_add, List.nodup_nil, List.nodup_cons, List.not_mem_nil, not_false_eq_true, and_self, and_true, true_and, reduceCtorEq, add_int, sub_int, neg_int, lt_int, le_int, gt_int, ge_int, eq_int, ne_int, len_lst, len_tup, un_eq, un2_eq, int_int, int_bl, abs_int, max_int, min_int, decide_true, decide_false]
theorem values10 (n : Nat) {q0 q1 q2 q3 q4 q5 : SV} : ∀ (ds : List D) (s6 s7 s8 : SV), (∀ d ∈ ds, Val d) → s6.isPar = false → s7.isPar = false → s8.isPar = false →
    ∃ r6 r7 r8, mLoop (gtN 6) (b10_f0 (mkO B (n + 1))) ds [q0, q1, q2, q3, q4, q5, s6, s7, s8] = .nx [q0, q1, q2, q3, q4, q5, r6, r7, r8] ∧ r6.isPar = false ∧ r7.isPar = false ∧ r8.isPar = false
  | [], s6, s7, s8, hv, p6, p7, p8 => ⟨s6, s7, s8, by rw [mLoop_nil], p6, p7, p8⟩
  | d :: ds, s6, s7, s8, hv, p6, p7, p8 => by
    have h1 := value10 n (hv d List.mem_cons_self) (q0 := q0) (q1 := q1) (q2 := q2) (q3 := q3) (q4 := q4) (q5 := q5) p7 p8
    obtain ⟨r6, r7, r8, h2, k6, k7, k8⟩ := values10 n (q0 := q0) (q1 := q1) (q2 := q2) (q3 := q3) (q4 := q4) (q5 := q5) ds (.pu d) (.ob false false (.lst [.bl (isShort d), .bl (isName d)])) (.ob false false (.lst [.bl (isShort d), .bl (isName d)])) (fun d hd => hv d (List.mem_cons_of_mem _ hd)) rfl rfl rfl
    refine ⟨r6, r7, r8, ?_, k6, k7, k8⟩
    rw [mLoop_cons]
    simp only [p6, h1, h2, bind_ok, bind_bad, bind_rai, lift_ok, lift_rai, opRes_val, opRes_new, oR_some, oS_some, oO_some, cont_pu, cont_fr, cont_nm, sv_pu, sv_pf, sv_ob, obind_some, mVar_eq, varR_pu, varR_pf, varR_ob, mC_eq, mBin_eq, mUn_eq, mBl_eq, blR_bl, mBi_eq, mCons_eq, mNil_eq, conts_nil, conts_cons, mSeq_eq, sqR_nx, sqR_rt, sqR_br, sqR_ct, sqR_rai, mIfS_eq, mRet_eq, mDrop_eq, mSkip_eq, mBreak_eq, mCont_eq, mAsg_eq, frz1_pu, frz1_fr, frz1_frT, frz1_nm, frz_pu, frz_fr, frz_nm, frzN_pu, frzN_pf, frzN_ob, frzN_par, put1_eq, par_un, par_pu, par_obF, par_obT, par_pf, nm_pu, nm_fr, rsv_pu, rsv_fr, mStore_eq, obS_ob, intS_int, lstS_lst, mAnd_eq, mOr_eq, mNot_eq, mYes_eq, mAndV_eq, mOrV_eq, mNotV_eq, mIf_eq, mTru_eq, tru_bl, tru_lst, mChain_eq, chR_bl, mDisp_eq, mDct_eq, mAll_nil, mAll_cons, keyD_inr, keyD_inl, List.map_cons, List.map_nil, frzA_eq, frzs_nil, frzs_cons, puD_nil, puD_cons, mCall_eq, fR_ret, fR_rai, argSVs_nil, argSVs_cons, arg_pu, arg_fr, arg_nm, argN_pu, argN_pf, argN_ob, nms_nil, nms_nm, nms_pu, nms_fr, retV_pu, retV_fr, retF_pu, retF_fr, retF_nm, retN_pu, retN_pf, retN_ob, back_eq, backFrom_nil, backFrom_cons, backSV_un, backSV_pu, backSV_pf, backSV_ob, back_out, backN_none, backN_some, backO_ob, backO_pf, nmAt_nil, nmAt_nm, nmAt_pu, nmAt_fr, outs_nil, outs_cons, okArg_pu, okArg_ob, mLc_eq, lcR_ok, mItV_eq, items_lst, items_tup, items_str, mRng1_eq, rng1_int, mFor_eq, loop_nx, loop_ct, loop_br, loop_rt, gtN_eq, mPar_eq, two_eq, mMtS_eq, strR_str, mSl_eq, mNoPart_eq, mPart_eq, intR_int, runF_eq, runR_nx, runR_rt, runR_rai, retR_some, noOb_nil, noOb_cons, obB_un, obB_pu, wipeS_nil, wipeS_cons, putBack_nil, putBack_cons, pbR_some, lcT_ok, lcE_ok, Option.getD_some, Option.map_some, Option.map_none, List.getElem?_cons_zero, List.getElem?_cons_succ, List.getElem?_nil, List.set_cons_zero, List.set_cons_succ, List.length_cons, List.length_nil, List.replicate, List.cons_append, List.nil_append, List.all_cons, List.all_nil, Bool.and_true, Bool.true_and, Bool.and_false, Bool.false_and, Bool.not_false, Bool.not_true, Bool.or_false, Bool.false_or, Bool.or_self, Bool.and_self, Bool.false_eq_true, if_true, if_false, Nat.reduceSub, Nat.reduceAdd, Nat.reduceEqDiff, Nat.zero_add, List.nodup_nil, List.nodup_cons, List.not_mem_nil, not_false_eq_true, and_self, and_true, true_and, reduceCtorEq, add_int, sub_int, neg_int, lt_int, le_int, gt_int, ge_int, eq_int, ne_int, len_lst, len_tup, un_eq, un2_eq, int_int, int_bl, abs_int, max_int, min_int, decide_true, decide_false]
/-- the values of other kinds -/
def others : List D := [.bl true, .bl false, .non, .str "1", .lst [], .dct [] [], .tup [.lst []], .tup [.int 0], .tup [.non], .lst [.int 1], .dct [.str "a"] [.int 1], .str "abcdefgh", .str "abcdefghi"]
theorem others_val : ∀ d ∈ others, Val d := by
  intro d hd
  simp only [others, List.mem_cons, List.not_mem_nil, or_false] at hd
  rcases hd with rfl | rfl | rfl | rfl | rfl | rfl | rfl | rfl | rfl | rfl | rfl | rfl | rfl
  all_goals first
    | exact True.intro
    | (show Str.length _ ≤ 1000; decide +kernel)
theorem r2 : ((List.range (Int.toNat 2)).map fun i => D.int (i : Nat)) = [.int 0, .int 1] := by kernel_rfl
theorem b2_ : (-(2 ^ 62) ≤ (2 : Int) ∧ (2 : Int) < 2 ^ 62) = True := eq_true (by decide)
theorem turn10 (n : Nat) {q0 q1 q2 q3 s4 s5 s6 s7 s8 : SV} {vs : List D} (h4 : s4 = .ob false false (.lst vs) ∨ s4 = .pu (.lst vs)) (hv : ∀ d ∈ vs, Val d) (p6 : s6.isPar = false) (p7 : s7.isPar = false) (p8 : s8.isPar = false) :
    ∃ r6 r7 r8, b10_f1 (mkO B (n + 1)) [q0, q1, q2, q3, s4, s5, s6, s7, s8] = .nx [q0, q1, q2, q3, .pu (.lst vs), s5, r6, r7, r8] ∧ r6.isPar = false ∧ r7.isPar = false ∧ r8.isPar = false := by
  obtain ⟨r6, r7, r8, h, k⟩ := values10 n (q0 := q0) (q1 := q1) (q2 := q2) (q3 := q3) (q4 := .pu (.lst vs)) (q5 := s5) vs s6 s7 s8 hv p6 p7 p8
  refine ⟨r6, r7, r8, ?_, k⟩
  rcases h4 with rfl | rfl <;> simp only [b10_f1, h, bind_ok, bind_bad, bind_rai, lift_ok, lift_rai, opRes_val, opRes_new, oR_some, oS_some, oO_some, cont_pu, cont_fr, cont_nm, sv_pu, sv_pf, sv_ob, obind_some, mVar_eq, varR_pu, varR_pf, varR_ob, mC_eq, mBin_eq, mUn_eq, mBl_eq, blR_bl, mBi_eq, mCons_eq, mNil_eq, conts_nil, conts_cons, mSeq_eq, sqR_nx, sqR_rt, sqR_br, sqR_ct, sqR_rai, mIfS_eq, mRet_eq, mDrop_eq, mSkip_eq, mBreak_eq, mCont_eq, mAsg_eq, frz1_pu, frz1_fr, frz1_frT, frz1_nm, frz_pu, frz_fr, frz_nm, frzN_pu, frzN_pf, frzN_ob, frzN_par, put1_eq, par_un, par_pu, par_obF, par_obT, par_pf, nm_pu, nm_fr, rsv_pu, rsv_fr, mStore_eq, obS_ob, intS_int, lstS_lst, mAnd_eq, mOr_eq, mNot_eq, mYes_eq, mAndV_eq, mOrV_eq, mNotV_eq, mIf_eq, mTru_eq, tru_bl, tru_lst, mChain_eq, chR_bl, mDisp_eq, mDct_eq, mAll_nil, mAll_cons, keyD_inr, keyD_inl, List.map_cons, List.map_nil, frzA_eq, frzs_nil, frzs_cons, puD_nil, puD_cons, mCall_eq, fR_ret, fR_rai, argSVs_nil, argSVs_cons, arg_pu, arg_fr, arg_nm, argN_pu, argN_pf, argN_ob, nms_nil, nms_nm, nms_pu, nms_fr, retV_pu, retV_fr, retF_pu, retF_fr, retF_nm, retN_pu, retN_pf, retN_ob, back_eq, backFrom_nil, backFrom_cons, backSV_un, backSV_pu, backSV_pf, backSV_ob, back_out, backN_none, backN_some, backO_ob, backO_pf, nmAt_nil, nmAt_nm, nmAt_pu, nmAt_fr, outs_nil, outs_cons, okArg_pu, okArg_ob, mLc_eq, lcR_ok, mItV_eq, items_lst, items_tup, items_str, mRng1_eq, rng1_int, mFor_eq, loop_nx, loop_ct, loop_br, loop_rt, gtN_eq, mPar_eq, two_eq, mMtS_eq, strR_str, mSl_eq, mNoPart_eq, mPart_eq, intR_int, runF_eq, runR_nx, runR_rt, runR_rai, retR_some, noOb_nil, noOb_cons, obB_un, obB_pu, wipeS_nil, wipeS_cons, putBack_nil, putBack_cons, pbR_some, lcT_ok, lcE_ok, Option.getD_some, Option.map_some, Option.map_none, List.getElem?_cons_zero, List.getElem?_cons_succ, List.getElem?_nil, List.set_cons_zero, List.set_cons_succ, List.length_cons, List.length_nil, List.replicate, List.cons_append, List.nil_append, List.all_cons, List.all_nil, Bool.and_true, Bool.true_and, Bool.and_false, Bool.false_and, Bool.not_false, Bool.not_true, Bool.or_false, Bool.false_or, Bool.or_self, Bool.and_self, Bool.false_eq_true, if_true, if_false, Nat.reduceSub, Nat.reduceAdd, Nat.reduceEqDiff, Nat.zero_add, List.nodup_nil, List.nodup_cons, List.not_mem_nil, not_false_eq_true, and_self, and_true, true_and, reduceCtorEq, add_int, sub_int, neg_int, lt_int, le_int, gt_int, ge_int, eq_int, ne_int, len_lst, len_tup, un_eq, un2_eq, int_int, int_bl, abs_int, max_int, min_int, decide_true, decide_false]
theorem cell10 (n : Nat) {ns : List Int} {a : Nat} (ha : a < 64) : mkO B (n + 5) 10 [.pu (.lst (ns.map .int)), .pu (.int a)] = .ret (.pu (.bl true)) [.pu (.lst (ns.map .int)), .pu (.int a)] := by
  obtain ⟨c, h1, hc⟩ := cup (n + 3) (ns := ns) ha
  have h1 : mkO B (n + 4) 2 _ = _ := h1
  have m1 : gMulA (.int 41) (.int (a : Int)) = .val (.int (41 * a)) := mul_int (mid64 (by decide) (by decide)) (mid64 (by omega) (by omega))
  have key : ∀ cell : Int, ∃ ds c1 fs c2, mkO B (n + 4) 8 [.ob true false c, .pu (.int cell)] = .ret (.fr (.lst ds)) [.ob true false c1, .pu (.int cell)] ∧ mkO B (n + 4) 9 [.ob true false c1] = .ret (.fr (.lst fs)) [.ob true false c2] ∧
      gAdd (.lst ds) (.lst fs) = .new (.lst (ds ++ fs)) ∧ gAdd (.lst (ds ++ fs)) (.lst [.bl true, .bl false, .non, .str "1", .lst [], .dct [] [], .tup [.lst []], .tup [.int 0], .tup [.non], .lst [.int 1], .dct [.str "a"] [.int 1], .str "abcdefgh", .str "abcdefghi"]) = .new (.lst (ds ++ fs ++ others)) ∧ ∀ d ∈ ds ++ fs ++ others, Val d := fun cell => by
    obtain ⟨ds, c1, k1, k2, k3, k4⟩ := numbers (n + 2) (cell := cell) hc (by decide)
    obtain ⟨c2, fs, k5, k6, k7, k8⟩ := texts n k4 (by decide)
    refine ⟨ds, c1, fs, c2, k1, k5, add_lst (Nat.le_trans (show ds.length + fs.length ≤ 60 by omega) line60), add_lst ?_, fun d hd => ?_⟩
    · rw [List.length_append]
      exact Nat.le_trans (show ds.length + fs.length + 13 ≤ 60 by omega) line60
    · rcases List.mem_append.mp hd with hd | hd
      · rcases List.mem_append.mp hd with hd | hd
        · exact k2 d hd
        · exact k8 d hd
      · exact others_val d hd
  by_cases h : a < ns.length
  · have l1 : gLt (.int (a : Int)) (.int (((ns.map D.int).length : Nat) : Int)) = .val (.bl true) := by
      rw [lt_int, ints_len, decide_eq_true (by omega)]
    have i1 : gIx (.lst (ns.map .int)) (.int (a : Int)) = .val (.int ns[a]) := ix_lst (atI_of (by omega) (by simp [h]))
    obtain ⟨ds, c1, fs, c2, k1, k2, k3, k4, k5⟩ := key ns[a]
    obtain ⟨r6, r7, r8, t1, p6, p7, p8⟩ := turn10 (n + 3) (q0 := .pu (.lst (ns.map .int))) (q1 := .pu (.int a)) (q2 := .ob false false c2) (q3 := .pu (.int ns[a])) (s5 := .pu (.int 0)) (s6 := .un) (s7 := .un) (s8 := .un) (.inl rfl) k5 rfl rfl rfl
    obtain ⟨r6', r7', r8', t2, _, _, _⟩ := turn10 (n + 3) (q0 := .pu (.lst (ns.map .int))) (q1 := .pu (.int a)) (q2 := .ob false false c2) (q3 := .pu (.int ns[a])) (s5 := .pu (.int 1)) (.inr rfl) k5 p6 p7 p8
    have t1 : b10_f1 (mkO B (n + 4)) _ = _ := t1
    have t2 : b10_f1 (mkO B (n + 4)) _ = _ := t2
    show runF 2 9 (b10 (mkO B (n + 4))) _ = _
    simp only [runF_eq, b10, h1, m1, l1, i1, k1, k2, k3, k4, rng1_int, b2_, r2, mLoop_cons, mLoop_nil, t1, t2, two_eq, bind_ok, bind_bad, bind_rai, lift_ok, lift_rai, opRes_val, opRes_new, oR_some, oS_some, oO_some, cont_pu, cont_fr, cont_nm, sv_pu, sv_pf, sv_ob, obind_some, mVar_eq, varR_pu, varR_pf, varR_ob, mC_eq, mBin_eq, mUn_eq, mBl_eq, blR_bl, mBi_eq, mCons_eq, mNil_eq, conts_nil, conts_cons, mSeq_eq, sqR_nx, sqR_rt, sqR_br, sqR_ct, sqR_rai, mIfS_eq, mRet_eq, mDrop_eq, mSkip_eq, mBreak_eq, mCont_eq, mAsg_eq, frz1_pu, frz1_fr, frz1_frT, frz1_nm, frz_pu, frz_fr, frz_nm, frzN_pu, frzN_pf, frzN_ob, frzN_par, put1_eq, par_un, par_pu, par_obF, par_obT, par_pf, nm_pu, nm_fr, rsv_pu, rsv_fr, mStore_eq, obS_ob, intS_int, lstS_lst, mAnd_eq, mOr_eq, mNot_eq, mYes_eq, mAndV_eq, mOrV_eq, mNotV_eq, mIf_eq, mTru_eq, tru_bl, tru_lst, mChain_eq, chR_bl, mDisp_eq, mDct_eq, mAll_nil, mAll_cons, keyD_inr, keyD_inl, List.map_cons, List.map_nil, frzA_eq, frzs_nil, frzs_cons, puD_nil, puD_cons, mCall_eq, fR_ret, fR_rai, argSVs_nil, argSVs_cons, arg_pu, arg_fr, arg_nm, argN_pu, argN_pf, argN_ob, nms_nil, nms_nm, nms_pu, nms_fr, retV_pu, retV_fr, retF_pu, retF_fr, retF_nm, retN_pu, retN_pf, retN_ob, back_eq, backFrom_nil, backFrom_cons, backSV_un, backSV_pu, backSV_pf, backSV_ob, back_out, backN_none, backN_some, backO_ob, backO_pf, nmAt_nil, nmAt_nm, nmAt_pu, nmAt_fr, outs_nil, outs_cons, okArg_pu, okArg_ob, mLc_eq, lcR_ok, mItV_eq, items_lst, items_tup, items_str, mRng1_eq, rng1_int, mFor_eq, loop_nx, loop_ct, loop_br, loop_rt, gtN_eq, mPar_eq, two_eq, mMtS_eq, strR_str, mSl_eq, mNoPart_eq, mPart_eq, intR_int, runF_eq, runR_nx, runR_rt, runR_rai, retR_some, noOb_nil, noOb_cons, obB_un, obB_pu, wipeS_nil, wipeS_cons, putBack_nil, putBack_cons, pbR_some, lcT_ok, lcE_ok, Option.getD_some, Option.map_some, Option.map_none, List.getElem?_cons_zero, List.getElem?_cons_succ, List.getElem?_nil, List.set_cons_zero, List.set_cons_succ, List.length_cons, List.length_nil, List.replicate, List.cons_append, List.nil_append, List.all_cons, List.all_nil, Bool.and_true, Bool.true_and, Bool.and_false, Bool.false_and, Bool.not_false, Bool.not_true, Bool.or_false, Bool.false_or, Bool.or_self, Bool.and_self, Bool.false_eq_true, if_true, if_false, Nat.reduceSub, Nat.reduceAdd, Nat.reduceEqDiff, Nat.zero_add, List.nodup_nil, List.nodup_cons, List.not_mem_nil, not_false_eq_true, and_self, and_true, true_and, reduceCtorEq, add_int, sub_int, neg_int, lt_int, le_int, gt_int, ge_int, eq_int, ne_int, len_lst, len_tup, un_eq, un2_eq, int_int, int_bl, abs_int, max_int, min_int, decide_true, decide_false]
  · have l1 : gLt (.int (a : Int)) (.int (((ns.map D.int).length : Nat) : Int)) = .val (.bl false) := by
      rw [lt_int, ints_len, decide_eq_false (by omega)]
    obtain ⟨ds, c1, fs, c2, k1, k2, k3, k4, k5⟩ := key (41 * a + 7)
    obtain ⟨r6, r7, r8, t1, p6, p7, p8⟩ := turn10 (n + 3) (q0 := .pu (.lst (ns.map .int))) (q1 := .pu (.int a)) (q2 := .ob false false c2) (q3 := .pu (.int (41 * a + 7))) (s5 := .pu (.int 0)) (s6 := .un) (s7 := .un) (s8 := .un) (.inl rfl) k5 rfl rfl rfl
    obtain ⟨r6', r7', r8', t2, _, _, _⟩ := turn10 (n + 3) (q0 := .pu (.lst (ns.map .int))) (q1 := .pu (.int a)) (q2 := .ob false false c2) (q3 := .pu (.int (41 * a + 7))) (s5 := .pu (.int 1)) (.inr rfl) k5 p6 p7 p8
    have t1 : b10_f1 (mkO B (n + 4)) _ = _ := t1
    have t2 : b10_f1 (mkO B (n + 4)) _ = _ := t2
    show runF 2 9 (b10 (mkO B (n + 4))) _ = _
    simp only [runF_eq, b10, h1, m1, l1, k1, k2, k3, k4, rng1_int, b2_, r2, mLoop_cons, mLoop_nil, t1, t2, two_eq, bind_ok, bind_bad, bind_rai, lift_ok, lift_rai, opRes_val, opRes_new, oR_some, oS_some, oO_some, cont_pu, cont_fr, cont_nm, sv_pu, sv_pf, sv_ob, obind_some, mVar_eq, varR_pu, varR_pf, varR_ob, mC_eq, mBin_eq, mUn_eq, mBl_eq, blR_bl, mBi_eq, mCons_eq, mNil_eq, conts_nil, conts_cons, mSeq_eq, sqR_nx, sqR_rt, sqR_br, sqR_ct, sqR_rai, mIfS_eq, mRet_eq, mDrop_eq, mSkip_eq, mBreak_eq, mCont_eq, mAsg_eq, frz1_pu, frz1_fr, frz1_frT, frz1_nm, frz_pu, frz_fr, frz_nm, frzN_pu, frzN_pf, frzN_ob, frzN_par, put1_eq, par_un, par_pu, par_obF, par_obT, par_pf, nm_pu, nm_fr, rsv_pu, rsv_fr, mStore_eq, obS_ob, intS_int, lstS_lst, mAnd_eq, mOr_eq, mNot_eq, mYes_eq, mAndV_eq, mOrV_eq, mNotV_eq, mIf_eq, mTru_eq, tru_bl, tru_lst, mChain_eq, chR_bl, mDisp_eq, mDct_eq, mAll_nil, mAll_cons, keyD_inr, keyD_inl, List.map_cons, List.map_nil, frzA_eq, frzs_nil, frzs_cons, puD_nil, puD_cons, mCall_eq, fR_ret, fR_rai, argSVs_nil, argSVs_cons, arg_pu, arg_fr, arg_nm, argN_pu, argN_pf, argN_ob, nms_nil, nms_nm, nms_pu, nms_fr, retV_pu, retV_fr, retF_pu, retF_fr, retF_nm, retN_pu, retN_pf, retN_ob, back_eq, backFrom_nil, backFrom_cons, backSV_un, backSV_pu, backSV_pf, backSV_ob, back_out, backN_none, backN_some, backO_ob, backO_pf, nmAt_nil, nmAt_nm, nmAt_pu, nmAt_fr, outs_nil, outs_cons, okArg_pu, okArg_ob, mLc_eq, lcR_ok, mItV_eq, items_lst, items_tup, items_str, mRng1_eq, rng1_int, mFor_eq, loop_nx, loop_ct, loop_br, loop_rt, gtN_eq, mPar_eq, two_eq, mMtS_eq, strR_str, mSl_eq, mNoPart_eq, mPart_eq, intR_int, runF_eq, runR_nx, runR_rt, runR_rai, retR_some, noOb_nil, noOb_cons, obB_un, obB_pu, wipeS_nil, wipeS_cons, putBack_nil, putBack_cons, pbR_some, lcT_ok, lcE_ok, Option.getD_some, Option.map_some, Option.map_none, List.getElem?_cons_zero, List.getElem?_cons_succ, List.getElem?_nil, List.set_cons_zero, List.set_cons_succ, List.length_cons, List.length_nil, List.replicate, List.cons_append, List.nil_append, List.all_cons, List.all_nil, Bool.and_true, Bool.true_and, Bool.and_false, Bool.false_and, Bool.not_false, Bool.not_true, Bool.or_false, Bool.false_or, Bool.or_self, Bool.and_self, Bool.false_eq_true, if_true, if_false, Nat.reduceSub, Nat.reduceAdd, Nat.reduceEqDiff, Nat.zero_add, List.nodup_nil, List.nodup_cons, List.not_mem_nil, not_false_eq_true, and_self, and_true, true_and, reduceCtorEq, add_int, sub_int, neg_int, lt_int, le_int, gt_int, ge_int, eq_int, ne_int, len_lst, len_tup, un_eq, un2_eq, int_int, int_bl, abs_int, max_int, min_int, decide_true, decide_false]

/-! ### the law -/
theorem loop11 (n : Nat) {ns : List Int} : ∀ (as : List Nat) (s1 : SV), (∀ a ∈ as, a < 64) → s1.isPar = false → ∃ r1, mLoop (gtN 1) (b11_f0 (mkO B (n + 5))) (as.map fun i => .int (i : Nat)) [.pu (.lst (ns.map .int)), s1] = .nx [.pu (.lst (ns.map .int)), r1]
  | [], s1, _, p1 => ⟨s1, by rw [List.map_nil, mLoop_nil]⟩
  | a :: as, s1, h, p1 => by
    have h1 := cell10 n (ns := ns) (h a List.mem_cons_self)
    obtain ⟨r1, h2⟩ := loop11 n (ns := ns) as (.pu (.int a)) (fun b hb => h b (List.mem_cons_of_mem _ hb)) rfl
    refine ⟨r1, ?_⟩
    have hb : b11_f0 (mkO B (n + 5)) [.pu (.lst (ns.map .int)), .pu (.int a)] = .nx [.pu (.lst (ns.map .int)), .pu (.int a)] := by
      simp only [b11_f0, h1, bind_ok, bind_bad, bind_rai, lift_ok, lift_rai, opRes_val, opRes_new, oR_some, oS_some, oO_some, cont_pu, cont_fr, cont_nm, sv_pu, sv_pf, sv_ob, obind_some, mVar_eq, varR_pu, varR_pf, varR_ob, mC_eq, mBin_eq, mUn_eq, mBl_eq, blR_bl, mBi_eq, mCons_eq, mNil_eq, conts_nil, conts_cons, mSeq_eq, sqR_nx, sqR_rt, sqR_br, sqR_ct, sqR_rai, mIfS_eq, mRet_eq, mDrop_eq, mSkip_eq, mBreak_eq, mCont_eq, mAsg_eq, frz1_pu, frz1_fr, frz1_frT, frz1_nm, frz_pu, frz_fr, frz_nm, frzN_pu, frzN_pf, frzN_ob, frzN_par, put1_eq, par_un, par_pu, par_obF, par_obT, par_pf, nm_pu, nm_fr, rsv_pu, rsv_fr, mStore_eq, obS_ob, intS_int, lstS_lst, mAnd_eq, mOr_eq, mNot_eq, mYes_eq, mAndV_eq, mOrV_eq, mNotV_eq, mIf_eq, mTru_eq, tru_bl, tru_lst, mChain_eq, chR_bl, mDisp_eq, mDct_eq, mAll_nil, mAll_cons, keyD_inr, keyD_inl, List.map_cons, List.map_nil, frzA_eq, frzs_nil, frzs_cons, puD_nil, puD_cons, mCall_eq, fR_ret, fR_rai, argSVs_nil, argSVs_cons, arg_pu, arg_fr, arg_nm, argN_pu, argN_pf, argN_ob, nms_nil, nms_nm, nms_pu, nms_fr, retV_pu, retV_fr, retF_pu, retF_fr, retF_nm, retN_pu, retN_pf, retN_ob, back_eq, backFrom_nil, backFrom_cons, backSV_un, backSV_pu, backSV_pf, backSV_ob, back_out, backN_none, backN_some, backO_ob, backO_pf, nmAt_nil, nmAt_nm, nmAt_pu, nmAt_fr, outs_nil, outs_cons, okArg_pu, okArg_ob, mLc_eq, lcR_ok, mItV_eq, items_lst, items_tup, items_str, mRng1_eq, rng1_int, mFor_eq, loop_nx, loop_ct, loop_br, loop_rt, gtN_eq, mPar_eq, two_eq, mMtS_eq, strR_str, mSl_eq, mNoPart_eq, mPart_eq, intR_int, runF_eq, runR_nx, runR_rt, runR_rai, retR_some, noOb_nil, noOb_cons, obB_un, obB_pu, wipeS_nil, wipeS_cons, putBack_nil, putBack_cons, pbR_some, lcT_ok, lcE_ok, Option.getD_some, Option.map_some, Option.map_none, List.getElem?_cons_zero, List.getElem?_cons_succ, List.getElem?_nil, List.set_cons_zero, List.set_cons_succ, List.length_cons, List.length_nil, List.replicate, List.cons_append, List.nil_append, List.all_cons, List.all_nil, Bool.and_true, Bool.true_and, Bool.and_false, Bool.false_and, Bool.not_false, Bool.not_true, Bool.or_false, Bool.false_or, Bool.or_self, Bool.and_self, Bool.false_eq_true, if_true, if_false, Nat.reduceSub, Nat.reduceAdd, Nat.reduceEqDiff, Nat.zero_add, List.nodup_nil, List.nodup_cons, List.not_mem_nil, not_false_eq_true, and_self, and_true, true_and, reduceCtorEq, add_int, sub_int, neg_int, lt_int, le_int, gt_int, ge_int, eq_int, ne_int, len_lst, len_tup, un_eq, un2_eq, int_int, int_bl, abs_int, max_int, min_int, decide_true, decide_false]
    rw [List.map_cons, mLoop_cons]
    simp only [p1, hb, h2, bind_ok, bind_bad, bind_rai, lift_ok, lift_rai, opRes_val, opRes_new, oR_some, oS_some, oO_some, cont_pu, cont_fr, cont_nm, sv_pu, sv_pf, sv_ob, obind_some, mVar_eq, varR_pu, varR_pf, varR_ob, mC_eq, mBin_eq, mUn_eq, mBl_eq, blR_bl, mBi_eq, mCons_eq, mNil_eq, conts_nil, conts_cons, mSeq_eq, sqR_nx, sqR_rt, sqR_br, sqR_ct, sqR_rai, mIfS_eq, mRet_eq, mDrop_eq, mSkip_eq, mBreak_eq, mCont_eq, mAsg_eq, frz1_pu, frz1_fr, frz1_frT, frz1_nm, frz_pu, frz_fr, frz_nm, frzN_pu, frzN_pf, frzN_ob, frzN_par, put1_eq, par_un, par_pu, par_obF, par_obT, par_pf, nm_pu, nm_fr, rsv_pu, rsv_fr, mStore_eq, obS_ob, intS_int, lstS_lst, mAnd_eq, mOr_eq, mNot_eq, mYes_eq, mAndV_eq, mOrV_eq, mNotV_eq, mIf_eq, mTru_eq, tru_bl, tru_lst, mChain_eq, chR_bl, mDisp_eq, mDct_eq, mAll_nil, mAll_cons, keyD_inr, keyD_inl, List.map_cons, List.map_nil, frzA_eq, frzs_nil, frzs_cons, puD_nil, puD_cons, mCall_eq, fR_ret, fR_rai, argSVs_nil, argSVs_cons, arg_pu, arg_fr, arg_nm, argN_pu, argN_pf, argN_ob, nms_nil, nms_nm, nms_pu, nms_fr, retV_pu, retV_fr, retF_pu, retF_fr, retF_nm, retN_pu, retN_pf, retN_ob, back_eq, backFrom_nil, backFrom_cons, backSV_un, backSV_pu, backSV_pf, backSV_ob, back_out, backN_none, backN_some, backO_ob, backO_pf, nmAt_nil, nmAt_nm, nmAt_pu, nmAt_fr, outs_nil, outs_cons, okArg_pu, okArg_ob, mLc_eq, lcR_ok, mItV_eq, items_lst, items_tup, items_str, mRng1_eq, rng1_int, mFor_eq, loop_nx, loop_ct, loop_br, loop_rt, gtN_eq, mPar_eq, two_eq, mMtS_eq, strR_str, mSl_eq, mNoPart_eq, mPart_eq, intR_int, runF_eq, runR_nx, runR_rt, runR_rai, retR_some, noOb_nil, noOb_cons, obB_un, obB_pu, wipeS_nil, wipeS_cons, putBack_nil, putBack_cons, pbR_some, lcT_ok, lcE_ok, Option.getD_some, Option.map_some, Option.map_none, List.getElem?_cons_zero, List.getElem?_cons_succ, List.getElem?_nil, List.set_cons_zero, List.set_cons_succ, List.length_cons, List.length_nil, List.replicate, List.cons_append, List.nil_append, List.all_cons, List.all_nil, Bool.and_true, Bool.true_and, Bool.and_false, Bool.false_and, Bool.not_false, Bool.not_true, Bool.or_false, Bool.false_or, Bool.or_self, Bool.and_self, Bool.false_eq_true, if_true, if_false, Nat.reduceSub, Nat.reduceAdd, Nat.reduceEqDiff, Nat.zero_add, List.nodup_nil, List.nodup_cons, List.not_mem_nil, not_false_eq_true, and_self, and_true, true_and, reduceCtorEq, add_int, sub_int, neg_int, lt_int, le_int, gt_int, ge_int, eq_int, ne_int, len_lst, len_tup, un_eq, un2_eq, int_int, int_bl, abs_int, max_int, min_int, decide_true, decide_false]
theorem law_holds (ns : List Int) (hn : ns.length ≤ 63) (hb : ∀ z ∈ ns, Builtin.Int.intBits z ≤ 1048576) : ∃ outs, mkO B 30 11 [.pu (.lst (ns.map .int))] = .ret (.pu (.bl true)) outs := by
  refine ⟨[.pu (.lst (ns.map .int))], ?_⟩
  obtain ⟨v, hv⟩ : ∃ v : Int, v = max 1 (min 8 (((ns.map D.int).length : Nat) : Int)) := ⟨_, rfl⟩
  have v1 : 1 ≤ v ∧ v ≤ 8 := by rw [hv]; omega
  have hr : (-(2 ^ 62) ≤ v ∧ v < 2 ^ 62) = True := eq_true (by omega)
  obtain ⟨r1, h1⟩ := loop11 24 (ns := ns) (List.range v.toNat) .un (fun a ha => by have := List.mem_range.mp ha; omega) rfl
  have h1 : mLoop (gtN 1) (b11_f0 (mkO B 29)) _ _ = _ := h1
  have e8 : (!decide ((8 : Int) = 8)) = false := by decide
  show runF 1 2 (b11 (mkO B 29)) _ = _
  simp only [runF_eq, b11, e8, ← hv, rng1_int, hr, h1, bind_ok, bind_bad, bind_rai, lift_ok, lift_rai, opRes_val, opRes_new, oR_some, oS_some, oO_some, cont_pu, cont_fr, cont_nm, sv_pu, sv_pf, sv_ob, obind_some, mVar_eq, varR_pu, varR_pf, varR_ob, mC_eq, mBin_eq, mUn_eq, mBl_eq, blR_bl, mBi_eq, mCons_eq, mNil_eq, conts_nil, conts_cons, mSeq_eq, sqR_nx, sqR_rt, sqR_br, sqR_ct, sqR_rai, mIfS_eq, mRet_eq, mDrop_eq, mSkip_eq, mBreak_eq, mCont_eq, mAsg_eq, frz1_pu, frz1_fr, frz1_frT, frz1_nm, frz_pu, frz_fr, frz_nm, frzN_pu, frzN_pf, frzN_ob, frzN_par, put1_eq, par_un, par_pu, par_obF, par_obT, par_pf, nm_pu, nm_fr, rsv_pu, rsv_fr, mStore_eq, obS_ob, intS_int, lstS_lst, mAnd_eq, mOr_eq, mNot_eq, mYes_eq, mAndV_eq, mOrV_eq, mNotV_eq, mIf_eq, mTru_eq, tru_bl, tru_lst, mChain_eq, chR_bl, mDisp_eq, mDct_eq, mAll_nil, mAll_cons, keyD_inr, keyD_inl, List.map_cons, List.map_nil, frzA_eq, frzs_nil, frzs_cons, puD_nil, puD_cons, mCall_eq, fR_ret, fR_rai, argSVs_nil, argSVs_cons, arg_pu, arg_fr, arg_nm, argN_pu, argN_pf, argN_ob, nms_nil, nms_nm, nms_pu, nms_fr, retV_pu, retV_fr, retF_pu, retF_fr, retF_nm, retN_pu, retN_pf, retN_ob, back_eq, backFrom_nil, backFrom_cons, backSV_un, backSV_pu, backSV_pf, backSV_ob, back_out, backN_none, backN_some, backO_ob, backO_pf, nmAt_nil, nmAt_nm, nmAt_pu, nmAt_fr, outs_nil, outs_cons, okArg_pu, okArg_ob, mLc_eq, lcR_ok, mItV_eq, items_lst, items_tup, items_str, mRng1_eq, rng1_int, mFor_eq, loop_nx, loop_ct, loop_br, loop_rt, gtN_eq, mPar_eq, two_eq, mMtS_eq, strR_str, mSl_eq, mNoPart_eq, mPart_eq, intR_int, runF_eq, runR_nx, runR_rt, runR_rai, retR_some, noOb_nil, noOb_cons, obB_un, obB_pu, wipeS_nil, wipeS_cons, putBack_nil, putBack_cons, pbR_some, lcT_ok, lcE_ok, Option.getD_some, Option.map_some, Option.map_none, List.getElem?_cons_zero, List.getElem?_cons_succ, List.getElem?_nil, List.set_cons_zero, List.set_cons_succ, List.length_cons, List.length_nil, List.replicate, List.cons_append, List.nil_append, List.all_cons, List.all_nil, Bool.and_true, Bool.true_and, Bool.and_false, Bool.false_and, Bool.not_false, Bool.not_true, Bool.or_false, Bool.false_or, Bool.or_self, Bool.and_self, Bool.false_eq_true, if_true, if_false, Nat.reduceSub, Nat.reduceAdd, Nat.reduceEqDiff, Nat.zero_add, List.nodup_nil, List.nodup_cons, List.not_mem_nil, not_false_eq_true, and_self, and_true, true_and, reduceCtorEq, add_int, sub_int, neg_int, lt_int, le_int, gt_int, ge_int, eq_int, ne_int, len_lst, len_tup, un_eq, un2_eq, int_int, int_bl, abs_int, max_int, min_int, decide_true, decide_false]
end Jk00
end

open PySem PySem.W PyProof.Rows in
set_option maxRecDepth 100000 in
set_option maxHeartbeats 0 in
theorem PySem.Challenge.cw_joinmore_k00_integers_and_names_holds : PySem.Challenge.rw_joinmore_k00_integers_and_names.Holds := by
  w_on; o_law; k_head; (case hw => w_witness2)
  k_fill
  refine Jk00.walk (l := PySem.Challenge.rw_joinmore_k00_integers_and_names) (k := 30) rfl rfl ⟨rfl, by decide, by decide⟩ Jk00.law_holds (fun w h Y => PySem.W.kIn_of Y) rfl ?F
  case F =>
    intro w mg h KX G
    refine ⟨?ns, ?_⟩
    (case ns => kernel_rfl)
    refine' Jk00.facts KX G ?a0 ?l0 ?q0 ?k0 ?a1 ?l1 ?q1 ?k1 ?a2 ?l2 ?q2 ?k2 ?a3 ?l3 ?q3 ?k3 ?a4 ?l4 ?q4 ?k4 ?a5 ?l5 ?q5 ?k5 ?a6 ?l6 ?q6 ?k6 ?a7 ?l7 ?q7 ?k7 ?a8 ?l8 ?q8 ?k8 ?a9 ?l9 ?q9 ?k9 ?a10 ?l10 ?q10 ?k10 ?a11 ?l11 ?q11 ?k11 ?v_GREATEST ?v_MAX_LETTERS ?z_abs ?z_all ?z_bool ?z_int ?z_isinstance ?z_len ?z_max ?z_min ?z_range ?z_repr ?z_str
    (case a0 => k_is)
    (case l0 => k_is)
    (case q0 => k_is)
    (case k0 => k_is)
    (case a1 => k_is)
    (case l1 => k_is)
    (case q1 => k_is)
    (case k1 => k_is)
    (case a2 => k_is)
    (case l2 => k_is)
    (case q2 => k_is)
    (case k2 => k_is)
    (case a3 => k_is)
    (case l3 => k_is)
    (case q3 => k_is)
    (case k3 => k_is)
    (case a4 => k_is)
    (case l4 => k_is)
    (case q4 => k_is)
    (case k4 => k_is)
    (case a5 => k_is)
    (case l5 => k_is)
    (case q5 => k_is)
    (case k5 => k_is)
    (case a6 => k_is)
    (case l6 => k_is)
    (case q6 => k_is)
    (case k6 => k_is)
    (case a7 => k_is)
    (case l7 => k_is)
    (case q7 => k_is)
    (case k7 => k_is)
    (case a8 => k_is)
    (case l8 => k_is)
    (case q8 => k_is)
    (case k8 => k_is)
    (case a9 => k_is)
    (case l9 => k_is)
    (case q9 => k_is)
    (case k9 => k_is)
    (case a10 => k_is)
    (case l10 => k_is)
    (case q10 => k_is)
    (case k10 => k_is)
    (case a11 => k_is)
    (case l11 => k_is)
    (case q11 => k_is)
    (case k11 => k_is)
    (case v_GREATEST => k_is)
    (case v_MAX_LETTERS => k_is)
    (case z_abs => k_is)
    (case z_all => k_is)
    (case z_bool => k_is)
    (case z_int => k_is)
    (case z_isinstance => k_is)
    (case z_len => k_is)
    (case z_max => k_is)
    (case z_min => k_is)
    (case z_range => k_is)
    (case z_repr => k_is)
    (case z_str => k_is)
