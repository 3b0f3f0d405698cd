import PyProof.Rows.All
import Wide.All
import OpenK.AllK
import Wide.FinOn
import HandS.ForMost
import HandS.Exc
import HandS.ExcOwn
import HandS.TryMany
import HandS.TryOnly
import HandS.WordsExc
import HandS.CallSlots
import HandS.TupAny
import HandS.TupMul
import HandS.Wide
import HandS.WideBits
import HandS.IsInst
import HandS.Style
import HandS.TupLe
import HandS.Conv
import HandS.SortInts
import HandS.WordsDict
import HandS.Text
import KE.SortData
import PyProof.ReprRoads
import HandS.Deep
import KE.KRevSl
import PySem.Challenge.RW_lampkinds_k50_formulas_and_their_lamps
set_option Elab.async false
set_option linter.all false
set_option maxRecDepth 100000
namespace L2
namespace G
open PySem PySem.Spec PyProof.Rows

/-! ### data, slots, results -/
abbrev D := PyData
/-- what is known of a local name: nothing, shared data, an own list (w: may be written) -/
inductive Sl where
  | un | sh (d : D) | ow (w : Bool) (d : D)
abbrev En := List Sl
/-- an exception: the class's number, the own field's value -/
structure Exn where
  cls : Nat
  arg : Option D
inductive Res (α : Type) where
  | st | ok (a : α) (e : En) | ex (x : Exn)
structure Rs where
  d : D
  fr : Bool
abbrev XF := En → Res Rs

/-- classes of exceptions: where they stand, and the name of their field -/
structure Ct where
  K : PySem.W.Frag
  cl : Nat → Addr
  fl : Nat → Str

/-- a dict's key as data -/
def keyD : Key → D
  | .inl i => .int i
  | .inr x => .str x
mutual
inductive Rep (K : PySem.W.Frag) (H : Hp) (B : Addr → Prop) : V → D → Prop
  | non : Rep K H B .non .none
  | bl (b : Bool) : Rep K H B (.bl b) (.bool b)
  | int (i : Int) : Rep K H B (.int i) (.int i)
  | str (x : Str) : Rep K H B (.str x) (.str x)
  | lst {a : Addr} {xs : List V} {ds : List D} : H a = some (.lst xs) → ¬ B a → Reps K H B xs ds → Rep K H B (.ref a) (.list ds)
  | tup {a : Addr} {xs : List V} {ds : List D} : SqT K H a xs → Reps K H B xs ds → Rep K H B (.ref a) (.tuple ds)
  | dct {a : Addr} {kvs : List (Key × V)} {ks : List (D × D)} : H a = some (.dK kvs) → ¬ B a → RepK K H B kvs ks → Rep K H B (.ref a) (.dict ks)
inductive Reps (K : PySem.W.Frag) (H : Hp) (B : Addr → Prop) : List V → List D → Prop
  | nil : Reps K H B [] []
  | cons {v : V} {vs : List V} {d : D} {ds : List D} : Rep K H B v d → Reps K H B vs ds → Reps K H B (v :: vs) (d :: ds)
inductive RepK (K : PySem.W.Frag) (H : Hp) (B : Addr → Prop) : List (Key × V) → List (D × D) → Prop
  | nil : RepK K H B [] []
  | cons {k : Key} {v : V} {kvs : List (Key × V)} {d : D} {ks : List (D × D)} : Rep K H B v d → RepK K H B kvs ks → RepK K H B ((k, v) :: kvs) ((keyD k, d) :: ks)
end
/-- what stands at an own address: the list itself is not looked at -/
inductive Top (K : PySem.W.Frag) (H : Hp) (B : Addr → Prop) (a : Addr) : D → Prop
  | lst {xs : List V} {ds : List D} : H a = some (.lst xs) → Reps K H B xs ds → Top K H B a (.list ds)
  | dct {kvs : List (Key × V)} {ks : List (D × D)} : H a = some (.dK kvs) → RepK K H B kvs ks → Top K H B a (.dict ks)

section
variable {K : PySem.W.Frag} {H H' H'' : Hp} {B B' : Addr → Prop} {a p : Addr} {d : D} {ds : List D} {v : V} {vs : List V}
theorem rd_keep {u : HO} (h : Rd H a u) (k : ∀ o, H a = some o → H' a = some o) : Rd H' a u := by
  rcases h with h | ⟨o, h⟩
  · exact .inl (k _ h)
  · exact .inr ⟨o, k _ h⟩
theorem rd_there {u : HO} (h : Rd H a u) : H a ≠ none := by
  rcases h with h | ⟨o, h⟩ <;> (rw [h]; intro z; cases z)
/-- what the heap may do to data that avoid B: all but B is kept; tuples are kept anyhow -/
structure Kp (B : Addr → Prop) (H H' : Hp) : Prop where
  keep : ∀ a o, H a = some o → ¬ B a → H' a = some o
  there : ∀ a, H a ≠ none → H' a ≠ none
  tup : ∀ a xs, Rd H a (.tup xs) → Rd H' a (.tup xs)
theorem Kp.refl : Kp B H H := ⟨fun _ _ h _ => h, fun _ h => h, fun _ _ h => h⟩
theorem Kp.trans (k : Kp B H H') (k' : Kp B H' H'') : Kp B H H'' := ⟨fun a o h n => k'.keep a o (k.keep a o h n) n, fun a h => k'.there a (k.there a h), fun a xs h => k'.tup a xs (k.tup a xs h)⟩
theorem Kp.anti (k : Kp B H H') (h : ∀ a, B a → B' a) : Kp B' H H' := ⟨fun a o e n => k.keep a o e fun z => n (h a z), k.there, k.tup⟩
theorem Kp.ext (k : ∀ a o, H a = some o → H' a = some o) : Kp B H H' := ⟨fun a o h _ => k a o h, fun a h => (by cases q : H a with | none => exact absurd q h | some o => rw [k a o q]; intro z; cases z), fun _ _ h => rd_keep h (k _)⟩
theorem ext_new {o : HO} (h : H p = none) : ∀ a u, H a = some u → upd H p o a = some u := fun a u e => by rw [upd_ne (ne_of_none e h)]; exact e
theorem Kp.new {o : HO} (h : H p = none) : Kp B H (upd H p o) := .ext (ext_new h)
/-- what may be written: a list, a dict -/
def Mo : HO → Prop
  | .lst _ => True | .dK _ => True | .dT _ => True | _ => False
/-- such a thing at an address of B is written -/
theorem Kp.write {u o : HO} (h : H a = some u) (m : Mo u) (b : B a) : Kp B H (upd H a o) :=
  ⟨fun c o e n => by rw [upd_ne (fun z => n (by rw [z]; exact b))]; exact e, fun c n => by
    rcases Classical.em (c = a) with z | z
    · rw [z, upd_same]; intro z; cases z
    · rw [upd_ne z]; exact n, fun c zs r => by
    have hc : c ≠ a := fun z => by
      subst z
      rcases r with r | ⟨o, r⟩ <;> (rw [h] at r; cases r; exact m)
    exact rd_keep r fun o e => by rw [upd_ne hc]; exact e⟩
mutual
theorem Rep.go (k : Kp B H H') (hB : ∀ a, B' a → H a ≠ none → B a) : ∀ {d : D} {v : V}, Rep K H B v d → Rep K H' B' v d
  | .none, _, h => by cases h; exact .non
  | .bool b, _, h => by cases h; exact .bl b
  | .int i, _, h => by cases h; exact .int i
  | .str x, _, h => by cases h; exact .str x
  | .list ds, _, h => by
    cases h with
    | lst q nb r => exact .lst (k.keep _ _ q nb) (fun z => nb (hB _ z (by rw [q]; intro z; cases z))) (Reps.go k hB r)
  | .tuple ds, _, h => by
    cases h with
    | tup q r =>
      refine .tup ?_ (Reps.go k hB r)
      rcases q with q | q
      · exact .inl (k.tup _ _ q)
      · exact .inr q
  | .dict ks, _, h => by
    cases h with
    | dct q nb r => exact .dct (k.keep _ _ q nb) (fun z => nb (hB _ z (by rw [q]; intro z; cases z))) (RepK.go k hB r)
theorem Reps.go (k : Kp B H H') (hB : ∀ a, B' a → H a ≠ none → B a) : ∀ {ds : List D} {vs : List V}, Reps K H B vs ds → Reps K H' B' vs ds
  | [], _, h => by cases h; exact .nil
  | d :: ds, _, h => by
    cases h with
    | cons a b => exact .cons (Rep.go k hB a) (Reps.go k hB b)
theorem RepK.go (k : Kp B H H') (hB : ∀ a, B' a → H a ≠ none → B a) : ∀ {ks : List (D × D)} {kvs : List (Key × V)}, RepK K H B kvs ks → RepK K H' B' kvs ks
  | [], _, h => by cases h; exact .nil
  | (_, d) :: ks, _, h => by
    cases h with
    | cons a b => exact .cons (Rep.go k hB a) (RepK.go k hB b)
end
theorem Rep.anti (r : Rep K H B v d) (h : ∀ a, B' a → B a) : Rep K H B' v d := r.go .refl fun a z _ => h a z
theorem RepK.anti {kvs : List (Key × V)} {ks : List (D × D)} (r : RepK K H B kvs ks) (h : ∀ a, B' a → B a) : RepK K H B' kvs ks := r.go .refl fun a z _ => h a z
theorem RepK.keep {kvs : List (Key × V)} {ks : List (D × D)} (r : RepK K H B kvs ks) (k : Kp B H H') : RepK K H' B kvs ks := r.go k fun _ z _ => z
theorem Reps.anti (r : Reps K H B vs ds) (h : ∀ a, B' a → B a) : Reps K H B' vs ds := r.go .refl fun a z _ => h a z
theorem Rep.keep (r : Rep K H B v d) (k : Kp B H H') : Rep K H' B v d := r.go k fun _ z _ => z
theorem Reps.keep (r : Reps K H B vs ds) (k : Kp B H H') : Reps K H' B vs ds := r.go k fun _ z _ => z
theorem Reps.length (r : Reps K H B vs ds) : vs.length = ds.length := by
  induction ds generalizing vs with
  | nil => cases r; rfl
  | cons d ds ih => cases r with | cons a b => simp [ih b]
theorem Reps.get {i : Nat} (r : Reps K H B vs ds) (h : vs[i]? = some v) : ∃ d, ds[i]? = some d ∧ Rep K H B v d := by
  induction ds generalizing vs i with
  | nil => cases r; simp at h
  | cons d ds ih =>
    cases r with
    | cons a b =>
      cases i with
      | zero => simp at h; subst h; exact ⟨d, rfl, a⟩
      | succ i => simpa using ih b (by simpa using h)
theorem Reps.getD {i : Nat} (r : Reps K H B vs ds) (h : ds[i]? = some d) : ∃ v, vs[i]? = some v ∧ Rep K H B v d := by
  induction ds generalizing vs i with
  | nil => simp at h
  | cons d' ds ih =>
    cases r with
    | cons a b =>
      cases i with
      | zero => simp at h; subst h; exact ⟨_, rfl, a⟩
      | succ i => simpa using ih b (by simpa using h)
theorem Reps.append {vs' : List V} {ds' : List D} (r : Reps K H B vs ds) (r' : Reps K H B vs' ds') : Reps K H B (vs ++ vs') (ds ++ ds') := by
  induction ds generalizing vs with
  | nil => cases r; exact r'
  | cons d ds ih => cases r with | cons a b => exact .cons a (ih b)
theorem Reps.take (n : Nat) (r : Reps K H B vs ds) : Reps K H B (vs.take n) (ds.take n) := by
  induction ds generalizing vs n with
  | nil => cases r; simp; exact .nil
  | cons d ds ih =>
    cases r with
    | cons a b =>
      cases n with
      | zero => exact .nil
      | succ n => exact .cons a (ih n b)
theorem Reps.drop (n : Nat) (r : Reps K H B vs ds) : Reps K H B (vs.drop n) (ds.drop n) := by
  induction ds generalizing vs n with
  | nil => cases r; simp; exact .nil
  | cons d ds ih =>
    cases r with
    | cons a b =>
      cases n with
      | zero => exact .cons a b
      | succ n => exact ih n b
theorem Reps.set (i : Nat) (r : Reps K H B vs ds) (q : Rep K H B v d) : Reps K H B (vs.set i v) (ds.set i d) := by
  induction ds generalizing vs i with
  | nil => cases r; exact .nil
  | cons d' ds ih =>
    cases r with
    | cons a b =>
      cases i with
      | zero => exact .cons q b
      | succ i => exact .cons a (ih i b)
theorem Reps.reverse (r : Reps K H B vs ds) : Reps K H B vs.reverse ds.reverse := by
  induction ds generalizing vs with
  | nil => cases r; exact .nil
  | cons d ds ih =>
    cases r with
    | cons a b =>
      rw [List.reverse_cons, List.reverse_cons]
      exact (ih b).append (.cons a .nil)
theorem Reps.eraseIdx (i : Nat) (r : Reps K H B vs ds) : Reps K H B (vs.eraseIdx i) (ds.eraseIdx i) := by
  induction ds generalizing vs i with
  | nil => cases r; exact .nil
  | cons d ds ih =>
    cases r with
    | cons a b =>
      cases i with
      | zero => exact b
      | succ i => exact .cons a (ih i b)
theorem Reps.dropLast (r : Reps K H B vs ds) : Reps K H B vs.dropLast ds.dropLast := by
  rw [List.dropLast_eq_take, List.dropLast_eq_take, r.length]; exact r.take _
theorem Top.go (k : Kp B H H') (hB : ∀ a, B' a → H a ≠ none → B a) (ha : ∀ o, H a = some o → H' a = some o) (t : Top K H B a d) : Top K H' B' a d := by
  cases t with
  | lst q r => exact .lst (ha _ q) (r.go k hB)
  | dct q r => exact .dct (ha _ q) (r.go k hB)
theorem Top.anti (t : Top K H B a d) (h : ∀ a, B' a → B a) : Top K H B' a d := t.go .refl (fun a z _ => h a z) fun _ e => e
theorem Top.rep (t : Top K H B a d) (nb : ¬ B' a) (h : ∀ a, B' a → B a) : Rep K H B' (.ref a) d := by
  cases t with
  | lst q r => exact .lst q nb (r.anti h)
  | dct q r => exact .dct q nb (r.go .refl fun a z _ => h a z)
/-- data that are read at once -/
abbrev Rdd (K : PySem.W.Frag) (H : Hp) (v : V) (d : D) : Prop := Rep K H (fun _ => False) v d
theorem Rep.rdd (r : Rep K H B v d) : Rdd K H v d := r.anti fun _ z => z.elim
theorem Top.rdd (t : Top K H B a d) : Rdd K H (.ref a) d := t.rep (fun z => z) fun _ z => z.elim
/-- an operand: its items avoid B, itself perhaps not -/
inductive Opd (K : PySem.W.Frag) (H : Hp) (B : Addr → Prop) : V → D → Prop
  | rep {v : V} {d : D} : Rep K H B v d → Opd K H B v d
  | top {a : Addr} {d : D} : Top K H B a d → Opd K H B (.ref a) d
theorem Opd.rdd (o : Opd K H B v d) : Rdd K H v d := by
  cases o with
  | rep r => exact r.rdd
  | top t => exact t.rdd
theorem Opd.list (o : Opd K H B v (.list ds)) : ∃ a xs, v = .ref a ∧ H a = some (.lst xs) ∧ Reps K H B xs ds := by
  cases o with
  | rep r => cases r with | lst q _ r => exact ⟨_, _, rfl, q, r⟩
  | top t => cases t with | lst q r => exact ⟨_, _, rfl, q, r⟩
theorem Opd.tuple (o : Opd K H B v (.tuple ds)) : ∃ a xs, v = .ref a ∧ SqT K H a xs ∧ Reps K H B xs ds := by
  cases o with
  | rep r => cases r with | tup q r => exact ⟨_, _, rfl, q, r⟩
  | top t => cases t
theorem Opd.int {i : Int} (o : Opd K H B v (.int i)) : v = .int i := by
  cases o with
  | rep r => cases r; rfl
  | top t => cases t
theorem Opd.str {i : Str} (o : Opd K H B v (.str i)) : v = .str i := by
  cases o with
  | rep r => cases r; rfl
  | top t => cases t
theorem Opd.bool {i : Bool} (o : Opd K H B v (.bool i)) : v = .bl i := by
  cases o with
  | rep r => cases r; rfl
  | top t => cases t
theorem Opd.none (o : Opd K H B v .none) : v = .non := by
  cases o with
  | rep r => cases r; rfl
  | top t => cases t
end

/-! ### the state -/
section
variable {K : PySem.W.Frag} {H H' H1 H2 : Hp} {Bx Bx' : Addr → Prop} {σ σ' : St} {e e' e1 e2 : En} {a p : Addr} {d : D} {v : V} {r : Rs}
def Wr (σ : St) (e : En) (a : Addr) : Prop := ∃ (i : Nat) (d : D), e[i]? = some (Sl.ow true d) ∧ σ[i]? = some (some (V.ref a))
def Av (σ : St) (e : En) (a : Addr) : Prop := ∃ (i : Nat) (w : Bool) (d : D), e[i]? = some (Sl.ow w d) ∧ σ[i]? = some (some (V.ref a))
theorem Wr.av (h : Wr σ e a) : Av σ e a := let ⟨i, d, h1, h2⟩ := h; ⟨i, true, d, h1, h2⟩
def Avo (Bx : Addr → Prop) (σ : St) (e : En) (a : Addr) : Prop := Av σ e a ∨ Bx a
/-- one more -/
def ad (Bx : Addr → Prop) (p : Addr) (a : Addr) : Prop := Bx a ∨ a = p
structure Sim (K : PySem.W.Frag) (Bx : Addr → Prop) (σ : St) (H : Hp) (e : En) : Prop where
  len : e.length = σ.length
  sh : ∀ (i : Nat) (d : D), e[i]? = some (Sl.sh d) → ∃ v, σ[i]? = some (some v) ∧ Rep K H (Avo Bx σ e) v d
  ow : ∀ (i : Nat) (w : Bool) (d : D), e[i]? = some (Sl.ow w d) → ∃ a, σ[i]? = some (some (V.ref a)) ∧ ¬ Bx a ∧ Top K H (Avo Bx σ e) a d
  inj : ∀ (i j : Nat) (w w' : Bool) (d d' : D) (a : Addr), e[i]? = some (Sl.ow w d) → e[j]? = some (Sl.ow w' d') → σ[i]? = some (some (V.ref a)) → σ[j]? = some (some (V.ref a)) → i = j
  bx : ∀ a, Bx a → H a ≠ none
/-- all is kept but what may be written -/
def Fr (σ : St) (e : En) (H H' : Hp) : Prop := Kp (Wr σ e) H H'
structure Le (σ : St) (e e' : En) : Prop where
  wr : ∀ a, Wr σ e' a → Wr σ e a
  av : ∀ a, Av σ e' a → Av σ e a
theorem Le.refl : Le σ e e := ⟨fun _ h => h, fun _ h => h⟩
theorem Le.trans (h : Le σ e e1) (h' : Le σ e1 e2) : Le σ e e2 := ⟨fun a z => h.wr a (h'.wr a z), fun a z => h.av a (h'.av a z)⟩
theorem Fr.refl : Fr σ e H H := Kp.refl
theorem Fr.trans (h : Fr σ e H H1) (l : Le σ e e1) (h' : Fr σ e1 H1 H2) : Fr σ e H H2 := Kp.trans h (Kp.anti h' l.wr)
theorem Sim.there (s : Sim K Bx σ H e) (h : Av σ e a) : H a ≠ none := by
  obtain ⟨i, w, d, h1, h2⟩ := h
  obtain ⟨b, q1, q2, q3⟩ := s.ow i w d h1
  rw [h2] at q1; cases q1
  cases q3 with
  | lst q _ => rw [q]; intro z; cases z
  | dct q _ => rw [q]; intro z; cases z
theorem Sim.avo_there (s : Sim K Bx σ H e) (h : Avo Bx σ e a) : H a ≠ none := h.elim s.there (s.bx a)
/-- less is avoided -/
theorem Sim.weaken (s : Sim K Bx' σ H e) (h : ∀ a, Bx a → Bx' a) : Sim K Bx σ H e := by
  have hh : ∀ a, Avo Bx σ e a → Avo Bx' σ e a := fun a z => z.imp id (h a)
  refine ⟨s.len, fun i d q => ?_, fun i w d q => ?_, s.inj, fun a z => s.bx a (h a z)⟩
  · obtain ⟨v, q1, q2⟩ := s.sh i d q
    exact ⟨v, q1, q2.anti hh⟩
  · obtain ⟨a, q1, q2, q3⟩ := s.ow i w d q
    exact ⟨a, q1, fun z => q2 (h a z), q3.anti hh⟩
/-- the heap turns, what is avoided stands -/
theorem Sim.heap (s : Sim K Bx σ H e) (k : ∀ a o, H a = some o → H' a = some o) : Sim K Bx σ H' e := by
  have kp : ∀ {B}, Kp B H H' := .ext k
  refine ⟨s.len, fun i d q => ?_, fun i w d q => ?_, s.inj, fun a z => ?_⟩
  · obtain ⟨v, q1, q2⟩ := s.sh i d q
    exact ⟨v, q1, q2.keep kp⟩
  · obtain ⟨a, q1, q2, q3⟩ := s.ow i w d q
    exact ⟨a, q1, q2, q3.go kp (fun _ z _ => z) (k a)⟩
  · cases q : H a with
    | none => exact absurd q (s.bx a z)
    | some o => rw [k a o q]; intro z; cases z
/-- a new object is laid: it may be avoided from now on -/
theorem Sim.laid {o : HO} (s : Sim K Bx σ H e) (h : H p = none) : Sim K (ad Bx p) σ (upd H p o) e := by
  have kp : ∀ {B}, Kp B H (upd H p o) := .new h
  have hh : ∀ a, Avo (ad Bx p) σ e a → H a ≠ none → Avo Bx σ e a := fun a z n => by
    rcases z with z | z | z
    · exact .inl z
    · exact .inr z
    · rw [z] at n; exact absurd h n
  refine ⟨s.len, fun i d q => ?_, fun i w d q => ?_, s.inj, fun a z => ?_⟩
  · obtain ⟨v, q1, q2⟩ := s.sh i d q
    exact ⟨v, q1, q2.go kp hh⟩
  · obtain ⟨a, q1, q2, q3⟩ := s.ow i w d q
    refine ⟨a, q1, fun z => ?_, q3.go kp hh (ext_new h a)⟩
    rcases z with z | z
    · exact q2 z
    · subst z; exact s.there ⟨i, w, d, q, q1⟩ h
  · rcases z with z | z
    · cases q : H a with
      | none => exact absurd q (s.bx a z)
      | some u => rw [ext_new h a u q]; intro z; cases z
    · rw [z, upd_same]; intro z; cases z
/-- behind an expression: r, new e', v, H' -/
def Holds (K : PySem.W.Frag) (Bx : Addr → Prop) (σ : St) (H : Hp) (e : En) (r : Rs) (v : V) : Prop :=
  match r.fr with
  | false => Sim K Bx σ H e ∧ Rep K H (Avo Bx σ e) v r.d
  | true => ∃ p, v = .ref p ∧ ¬ Bx p ∧ Sim K (ad Bx p) σ H e ∧ Top K H (Avo (ad Bx p) σ e) p r.d
structure Post (K : PySem.W.Frag) (Bx : Addr → Prop) (σ : St) (H : Hp) (e : En) (r : Rs) (e' : En) (v : V) (H' : Hp) : Prop where
  fr : Fr σ e H H'
  le : Le σ e e'
  is : Holds K Bx σ H' e' r v
  new : r.fr = true → ∀ p, v = .ref p → H p = none
theorem Holds.sh (h : Holds K Bx σ H e r v) : Sim K Bx σ H e ∧ Rep K H (Avo Bx σ e) v r.d := by
  obtain ⟨d, fr⟩ := r
  cases fr with
  | false => exact h
  | true =>
    obtain ⟨p, rfl, nb, s, t⟩ := h
    refine ⟨s.weaken fun a z => .inl z, t.rep (fun z => ?_) fun a z => z.imp id .inl⟩
    rcases z with ⟨i, w, d', h1, h2⟩ | z
    · obtain ⟨b, q1, q2, _⟩ := s.ow i w d' h1
      rw [h2] at q1; cases q1
      exact q2 (.inr rfl)
    · exact nb z
theorem Post.s (h : Post K Bx σ H e r e' v H') : Sim K Bx σ H' e' := h.is.sh.1
theorem Post.rp (h : Post K Bx σ H e r e' v H') : Rep K H' (Avo Bx σ e') v r.d := h.is.sh.2
theorem Post.mk0 (fr : Fr σ e H H') (le : Le σ e e') (s : Sim K Bx σ H' e') (r : Rep K H' (Avo Bx σ e') v d) : Post K Bx σ H e ⟨d, false⟩ e' v H' := ⟨fr, le, ⟨s, r⟩, fun z => nomatch z⟩
/-- first, then -/
theorem Post.after {r1 : Rs} {v1 : V} (h : Post K Bx σ H e r1 e1 v1 H1) (h' : Post K Bx σ H1 e1 r e' v H') : Post K Bx σ H e r e' v H' :=
  ⟨h.fr.trans h.le h'.fr, h.le.trans h'.le, h'.is, fun z p q => Classical.byContradiction fun o => h.fr.there p o (h'.new z p q)⟩
end
end G
end L2
namespace L2
namespace G
open PySem PySem.Spec PyProof.Rows

def Res.bind {α β : Type} (x : Res α) (g : α → En → Res β) : Res β := match x with
  | .st => .st
  | .ok a e => g a e
  | .ex y => .ex y
def Res.run {α : Type} (x : Res α) (P : α → En → Prop) (E : Exn → Prop) : Prop := match x with
  | .st => False
  | .ok a e => P a e
  | .ex y => E y
theorem bind_run {α β : Type} {x : Res α} {g : α → En → Res β} {P : β → En → Prop} {E : Exn → Prop} (h : (x.bind g).run P E) : x.run (fun a e => (g a e).run P E) E := by
  cases x <;> exact h
theorem run_mono {α : Type} {x : Res α} {P P' : α → En → Prop} {E E' : Exn → Prop} (h : x.run P E) (h1 : ∀ a e, P a e → P' a e) (h2 : ∀ y, E y → E' y) : x.run P' E' := by
  cases x with
  | st => exact h
  | ok a e => exact h1 a e h
  | ex y => exact h2 y h

def ExR (C : Ct) (x : Exn) (cls : Value) (d : Option Addr) (H : Hp) : Prop :=
  cls = .ref (C.cl x.cls) ∧ ∀ p, x.arg = some p → ∃ (a : Addr) (v : V), d = some a ∧ H a = some (.xd [(C.fl x.cls, v)]) ∧ Rdd C.K H v p
/-- what is wished of an exception -/
def EX (C : Ct) (W : WX) (σ : L2.St) (H : Hp) (e : En) (x : Exn) : Prop := ∀ cls d (σ' : L2.St) H', σ'.length = σ.length → ExR C x cls d H' → Fr σ e H H' → W cls d σ' H'
theorem EX.after {C : Ct} {W : WX} {σ : L2.St} {H H1 : Hp} {e e1 : En} {x : Exn} (h : EX C W σ H e x) (f : Fr σ e H H1) (l : Le σ e e1) : EX C W σ H1 e1 x :=
  fun cls d σ' H' q r f' => h cls d σ' H' q r (f.trans l f')

/-- readings -/
def TD (C : Ct) (W : WX) (f : XF) : TE := fun σ H Q => ∃ e Bx, Sim C.K Bx σ H e ∧ (f e).run (fun r e' => ∀ v H', Post C.K Bx σ H e r e' v H' → Q v H') (EX C W σ H e)
structure PostO (K : PySem.W.Frag) (Bx : Addr → Prop) (σ : L2.St) (H : Hp) (e : En) (d : D) (e' : En) (v : V) (H' : Hp) : Prop where
  fr : Fr σ e H H'
  le : Le σ e e'
  s : Sim K Bx σ H' e'
  o : Opd K H' (Avo Bx σ e') v d
def TDo (C : Ct) (W : WX) (f : En → Res D) : TE := fun σ H Q => ∃ e Bx, Sim C.K Bx σ H e ∧ (f e).run (fun d e' => ∀ v H', PostO C.K Bx σ H e d e' v H' → Q v H') (EX C W σ H e)
structure PostT (K : PySem.W.Frag) (Bx : Addr → Prop) (σ : L2.St) (H : Hp) (e : En) (e' : En) (H' : Hp) : Prop where
  fr : Fr σ e H H'
  le : Le σ e e'
  s : Sim K Bx σ H' e'
def TDt (C : Ct) (W : WX) (f : En → Res Bool) : TT := fun σ H Q => ∃ e Bx, Sim C.K Bx σ H e ∧ (f e).run (fun b e' => ∀ H', PostT C.K Bx σ H e e' H' → Q b H') (EX C W σ H e)
structure PostA (K : PySem.W.Frag) (Bx : Addr → Prop) (σ : L2.St) (H : Hp) (e : En) (ds : List D) (e' : En) (vs : List V) (H' : Hp) : Prop where
  fr : Fr σ e H H'
  le : Le σ e e'
  s : Sim K Bx σ H' e'
  r : Reps K H' (Avo Bx σ e') vs ds
def TDa (C : Ct) (W : WX) (f : En → Res (List D)) : TA := fun σ H Q => ∃ e Bx, Sim C.K Bx σ H e ∧ (f e).run (fun ds e' => ∀ vs H', PostA C.K Bx σ H e ds e' vs H' → Q vs H') (EX C W σ H e)
abbrev GE (C : Ct) (X : Cx) (W : WX) (e : Expr) (f : XF) : Prop := PE X e (TD C W f)
abbrev GO (C : Ct) (X : Cx) (W : WX) (e : Expr) (f : En → Res D) : Prop := PE X e (TDo C W f)
abbrev GT (C : Ct) (X : Cx) (W : WX) (e : Expr) (f : En → Res Bool) : Prop := PT X e (TDt C W f)
abbrev GW (C : Ct) (X : Cx) (W : WX) (e : Expr) (f : En → Res Bool) : Prop := PW X e (TDt C W f)
abbrev GA (C : Ct) (X : Cx) (W : WX) (es : List Expr) (f : En → Res (List D)) : Prop := PA X es (TDa C W f)

theorem pe_imp {X : Cx} {e : Expr} {t t' : TE} (h : PE X e t) (i : ∀ σ H Q, t' σ H Q → t σ H Q) : PE X e t' := ⟨fun pins s σ H Q I q => h.run pins s σ H Q I (i σ H Q q)⟩
theorem pt_imp {X : Cx} {e : Expr} {t t' : TT} (h : PT X e t) (i : ∀ σ H Q, t' σ H Q → t σ H Q) : PT X e t' := ⟨fun pins s σ H Q I q => h.run pins s σ H Q I (i σ H Q q)⟩
theorem pw_imp {X : Cx} {e : Expr} {t t' : TT} (h : PW X e t) (i : ∀ σ H Q, t' σ H Q → t σ H Q) : PW X e t' := ⟨fun wh pins s σ H Q I q => h.run wh pins s σ H Q I (i σ H Q q)⟩
theorem pa_imp {X : Cx} {e : List Expr} {t t' : TA} (h : PA X e t) (i : ∀ σ H Q, t' σ H Q → t σ H Q) : PA X e t' := ⟨fun pos pins s σ H Q I q => h.run pos pins s σ H Q I (i σ H Q q)⟩

section
variable {C : Ct} {X : Cx} {W : WX} {K : PySem.W.Frag} {Bx : Addr → Prop} {σ : L2.St} {H H' H1 H2 : Hp} {e0 e' e1 e2 : En} {e a b : Expr} {pos : Pos} {d : D} {v : V}

theorem Avo.le (l : Le σ e0 e') : ∀ a, Avo Bx σ e' a → Avo Bx σ e0 a := fun a z => z.imp (l.av a) id
/-- a value held while something else is run -/
theorem rep_after (r : Rep K H (Avo Bx σ e0) v d) (f : Fr σ e0 H H') (l : Le σ e0 e') : Rep K H' (Avo Bx σ e') v d :=
  (r.keep (f.anti fun a z => .inl z.av)).anti (Avo.le l)
theorem reps_after {vs : List V} {ds : List D} (r : Reps K H (Avo Bx σ e0) vs ds) (f : Fr σ e0 H H') (l : Le σ e0 e') : Reps K H' (Avo Bx σ e') vs ds :=
  (r.keep (f.anti fun a z => .inl z.av)).anti (Avo.le l)
theorem Post.same (s : Sim K Bx σ H e0) (r : Rep K H (Avo Bx σ e0) v d) : Post K Bx σ H e0 ⟨d, false⟩ e0 v H := .mk0 .refl .refl s r
/-- a new list -/
theorem Post.newL {p : Addr} {xs : List V} {ds : List D} (s : Sim K Bx σ H e0) (h : H p = none) (r : Reps K H (Avo Bx σ e0) xs ds) : Post K Bx σ H e0 ⟨.list ds, true⟩ e0 (.ref p) (upd H p (.lst xs)) :=
  ⟨.new h, .refl, ⟨p, rfl, fun z => s.bx p z h, s.laid h, .lst upd_same (r.go (.new h) fun a z n => by
    rcases z with z | z | z
    · exact .inl z
    · exact .inr z
    · rw [z] at n; exact absurd h n)⟩, fun _ q e => by cases e; exact h⟩
/-- a new tuple -/
theorem Post.newT {p : Addr} {xs : List V} {ds : List D} (s : Sim K Bx σ H e0) (h : H p = none) (r : Reps K H (Avo Bx σ e0) xs ds) : Post K Bx σ H e0 ⟨.tuple ds, false⟩ e0 (.ref p) (upd H p (.tup xs)) :=
  .mk0 (.new h) .refl (s.heap (ext_new h)) (.tup (.inl (.inl upd_same)) (r.keep (.new h)))

/-! ### names and constants -/
/-- the value of a name, handed on: an own list is shared from now on -/
def xV (i : Nat) : XF := fun e => match e[i]? with
  | some (Sl.sh d) => .ok ⟨d, false⟩ e
  | some (Sl.ow true d) => .ok ⟨d, false⟩ (e.set i (.sh d))
  | _ => .st
/-- .. looked at -/
def xB (i : Nat) : En → Res D := fun e => match e[i]? with
  | some (Sl.sh d) => .ok d e
  | some (Sl.ow _ d) => .ok d e
  | _ => .st
def xC (d : D) : XF := fun e => .ok ⟨d, false⟩ e

theorem Sim.look {i : Nat} (s : Sim K Bx σ H e0) (h : xB i e0 = .ok d e') : e' = e0 ∧ ∃ v, σ[i]? = some (some v) ∧ Opd K H (Avo Bx σ e0) v d := by
  unfold xB at h
  split at h
  · rename_i d' q
    cases h
    obtain ⟨v, h1, h2⟩ := s.sh i d q
    exact ⟨rfl, v, h1, .rep h2⟩
  · rename_i w d' q
    cases h
    obtain ⟨a, h1, h2, h3⟩ := s.ow i w d q
    exact ⟨rfl, _, h1, .top h3⟩
  · cases h
theorem set_look {i : Nat} {z : Sl} {j : Nat} {y : Sl} (h : (e0.set i z)[j]? = some y) : (j = i ∧ y = z) ∨ (j ≠ i ∧ e0[j]? = some y) := by
  by_cases c : i = j
  · subst c
    by_cases hl : i < e0.length
    · rw [List.getElem?_set_self hl] at h; exact .inl ⟨rfl, (Option.some.inj h).symm⟩
    · rw [List.getElem?_eq_none (by simpa using hl)] at h; cases h
  · rw [List.getElem?_set_ne c] at h; exact .inr ⟨fun q => c q.symm, h⟩
/-- an own list is shared from now on -/
theorem Sim.share {i : Nat} {w : Bool} {p : Addr} (s : Sim K Bx σ H e0) (h : e0[i]? = some (Sl.ow w d)) (hp : σ[i]? = some (some (V.ref p))) :
    Sim K Bx σ H (e0.set i (.sh d)) ∧ Le σ e0 (e0.set i (.sh d)) ∧ Rep K H (Avo Bx σ (e0.set i (.sh d))) (.ref p) d := by
  obtain ⟨p', q1, q2, q3⟩ := s.ow i w d h
  rw [hp] at q1; cases q1
  have av : ∀ a, Av σ (e0.set i (.sh d)) a → Av σ e0 a := fun a ⟨j, w', d', h1, h2⟩ => by
    rcases set_look h1 with ⟨_, z⟩ | ⟨_, z⟩
    · cases z
    · exact ⟨j, w', d', z, h2⟩
  have le : Le σ e0 (e0.set i (.sh d)) := ⟨fun a ⟨j, d', h1, h2⟩ => by
    rcases set_look h1 with ⟨_, z⟩ | ⟨_, z⟩
    · cases z
    · exact ⟨j, d', z, h2⟩, av⟩
  have na : ¬ Avo Bx σ (e0.set i (.sh d)) p := fun z => by
    rcases z with ⟨j, w', d', h1, h2⟩ | z
    · rcases set_look h1 with ⟨_, z⟩ | ⟨z0, z⟩
      · cases z
      · exact z0 (s.inj j i _ _ _ _ p z h h2 hp)
    · exact q2 z
  have rp : Rep K H (Avo Bx σ (e0.set i (.sh d))) (.ref p) d := q3.rep na (Avo.le le)
  refine ⟨⟨by rw [List.length_set]; exact s.len, fun j d' h1 => ?_, fun j w' d' h1 => ?_, fun j k w' w'' d' d'' a h1 h2 h3 h4 => ?_, s.bx⟩, le, rp⟩
  · rcases set_look h1 with ⟨rfl, z⟩ | ⟨_, z⟩
    · cases z; exact ⟨_, hp, rp⟩
    · obtain ⟨v, r1, r2⟩ := s.sh j d' z
      exact ⟨v, r1, r2.anti (Avo.le le)⟩
  · rcases set_look h1 with ⟨_, z⟩ | ⟨_, z⟩
    · cases z
    · obtain ⟨a, r1, r2, r3⟩ := s.ow j w' d' z
      exact ⟨a, r1, r2, r3.anti (Avo.le le)⟩
  · rcases set_look h1 with ⟨_, z⟩ | ⟨_, z⟩
    · cases z
    · rcases set_look h2 with ⟨_, z'⟩ | ⟨_, z'⟩
      · cases z'
      · exact s.inj j k _ _ _ _ a z z' h3 h4

theorem ge_v {i : Nat} {x : Str} (hN : X.N[i]? = some x) (hv : Vis X.env.scope x) (hd : (x == ("__debug__" : Str)) = false := by decide) (hcd : (x == ("__classdict__" : Str)) = false := by decide) : GE C X W (.Name x pos) (xV i) := by
  refine pe_imp (pe_var hN hv hd hcd) fun σ H Q ⟨e, Bx, s, h⟩ => ?_
  unfold xV at h
  split at h
  · rename_i d q
    obtain ⟨v, h1, h2⟩ := s.sh i d q
    exact ⟨v, h1, h v H (.same s h2)⟩
  · rename_i d q
    obtain ⟨p, h1, h2, h3⟩ := s.ow i true d q
    obtain ⟨s', le, r⟩ := s.share q h1
    exact ⟨_, h1, h _ H (.mk0 .refl le s' r)⟩
  · exact h.elim
theorem go_v {i : Nat} {x : Str} (hN : X.N[i]? = some x) (hv : Vis X.env.scope x) (hd : (x == ("__debug__" : Str)) = false := by decide) (hcd : (x == ("__classdict__" : Str)) = false := by decide) : GO C X W (.Name x pos) (xB i) := by
  refine pe_imp (pe_var hN hv hd hcd) fun σ H Q ⟨e, Bx, s, h⟩ => ?_
  cases q : xB i e with
  | st => rw [q] at h; exact h.elim
  | ex y => unfold xB at q; split at q <;> cases q
  | ok d e' =>
    rw [q] at h
    obtain ⟨rfl, v, h1, h2⟩ := s.look q
    exact ⟨v, h1, h v H ⟨.refl, .refl, s, h2⟩⟩
/-- looked at only -/
def xO (f : XF) : En → Res D := fun e => (f e).bind fun r e' => .ok r.d e'
theorem go_e {f : XF} (h : GE C X W e f) : GO C X W e (xO f) := by
  refine pe_imp h fun σ H Q ⟨e, Bx, s, q⟩ => ⟨e, Bx, s, run_mono (bind_run q) (fun r e' q v H' p => q v H' ⟨p.fr, p.le, p.s, .rep p.rp⟩) fun _ z => z⟩
theorem ge_c {t : TE} (h : PE X e t) (hv : ∀ σ H Q, Q v H → t σ H Q) (r : ∀ K H B, Rep K H B v d) : GE C X W e (xC d) := by
  refine pe_imp h fun σ H Q ⟨e, Bx, s, q⟩ => hv σ H Q (q v H (.same s (r _ _ _)))
theorem ge_int {i j pos} : GE C X W (.Constant (.int i) j pos) (xC (.int i)) := ge_c pe_int (fun _ _ _ h => h) fun _ _ _ => .int _
theorem ge_str {i j pos} : GE C X W (.Constant (.str i) j pos) (xC (.str i)) := ge_c pe_str (fun _ _ _ h => h) fun _ _ _ => .str _
theorem ge_bl {i j pos} : GE C X W (.Constant (.bool i) j pos) (xC (.bool i)) := ge_c pe_bl (fun _ _ _ h => h) fun _ _ _ => .bl _
theorem ge_non {j pos} : GE C X W (.Constant .none j pos) (xC .none) := ge_c pe_non (fun _ _ _ h => h) fun _ _ _ => .non
theorem ge_glob {x : Str} {u : Value} (hg : Gl X x) (hm : X.mg x = some u) (rv : RelV v u) (r : ∀ H B, Rep C.K H B v d) (hd : (x == ("__debug__" : Str)) = false := by decide) : GE C X W (.Name x pos) (xC d) := by
  refine pe_imp (pe_glob hg hm rv hd) fun σ H Q ⟨e, Bx, s, q⟩ => q v H (.same s (r _ _))

/-! ### argument lists, displays -/
def xNil : En → Res (List D) := fun e => .ok [] e
def xCons (f : XF) (g : En → Res (List D)) : En → Res (List D) := fun e => (f e).bind fun r e1 => (g e1).bind fun ds e2 => .ok (r.d :: ds) e2
theorem ga_nil : GA C X W [] xNil := pa_imp pa_nil fun σ H Q ⟨e, Bx, s, q⟩ => q [] H ⟨.refl, .refl, s, .nil⟩
theorem ga_cons {es : List Expr} {f : XF} {g : En → Res (List D)} (ha : GE C X W e f) (hr : GA C X W es g) (hs : starEach (e :: es) X.env = (false, eval e X.env) :: starEach es X.env := by rfl) : GA C X W (e :: es) (xCons f g) := by
  refine pa_imp (pa_cons ha hr hs) fun σ H Q ⟨e, Bx, s, q⟩ => ⟨e, Bx, s, run_mono (bind_run q) (fun r e1 q v H1 p1 => ?_) fun _ z => z⟩
  refine ⟨e1, Bx, p1.s, run_mono (bind_run q) (fun ds e2 q vs H2 p2 => ?_) fun y z => EX.after z p1.fr p1.le⟩
  exact q (v :: vs) H2 ⟨p1.fr.trans p1.le p2.fr, p1.le.trans p2.le, p2.s, .cons (rep_after p1.rp p2.fr p2.le) p2.r⟩
def most : Nat := 1000000
theorem most_ok {n : Nat} (h : n ≤ most) : n ≤ sizeLine := Nat.le_trans h (by rw [sizeLine_eq]; decide)
theorem most_lt {n : Nat} (h : n ≤ most) : n < sizeLine := Nat.lt_of_le_of_lt h (by rw [sizeLine_eq]; decide)
def xTup (g : En → Res (List D)) : XF := fun e => (g e).bind fun ds e1 => if ds.length ≤ most then .ok ⟨.tuple ds, false⟩ e1 else .st
def xLst (g : En → Res (List D)) : XF := fun e => (g e).bind fun ds e1 => if ds.length ≤ most then .ok ⟨.list ds, true⟩ e1 else .st
theorem Post.after_a {ds : List D} {vs : List V} {r : Rs} (h : PostA K Bx σ H e0 ds e1 vs H1) (h' : Post K Bx σ H1 e1 r e' v H') : Post K Bx σ H e0 r e' v H' :=
  ⟨h.fr.trans h.le h'.fr, h.le.trans h'.le, h'.is, fun z p q => Classical.byContradiction fun o => h.fr.there p o (h'.new z p q)⟩
theorem ge_tup {es : List Expr} {x1} {g : En → Res (List D)} (h : GA C X W es g) : GE C X W (.Tuple es x1 pos) (xTup g) := by
  refine pe_imp (pe_tup h) fun σ H Q ⟨e, Bx, s, q⟩ => ⟨e, Bx, s, run_mono (bind_run q) (fun ds e1 q vs H1 p1 => ?_) fun _ z => z⟩
  split at q
  · rename_i hl
    exact ⟨by rw [p1.r.length]; exact most_ok hl, fun p hp => q _ _ (p1.fr |> fun f => Post.after_a p1 (.newT p1.s hp p1.r))⟩
  · exact q.elim
theorem ge_lst {es : List Expr} {g : En → Res (List D)} (h : GA C X W es g) : GE C X W (.List es pos) (xLst g) := by
  refine pe_imp (pe_lst h) fun σ H Q ⟨e, Bx, s, q⟩ => ⟨e, Bx, s, run_mono (bind_run q) (fun ds e1 q vs H1 p1 => ?_) fun _ z => z⟩
  split at q
  · rename_i hl
    exact ⟨by rw [p1.r.length]; exact most_ok hl, fun p hp => q _ _ (Post.after_a p1 (.newL p1.s hp p1.r))⟩
  · exact q.elim

/-! ### two operands -/
/-- the left one: run, or a name looked at when both are there -/
inductive Lf where
  | ex (f : XF) | br (i : Nat)
def xTwo {β : Type} (l : Lf) (g : En → Res D) (k : D → D → En → Res β) : En → Res β := match l with
  | .ex f => fun e => (f e).bind fun r e1 => (g e1).bind fun y e2 => k r.d y e2
  | .br i => fun e => (xB i e).bind fun _ e1 => (g e1).bind fun y e2 => (xB i e2).bind fun x e3 => k x y e3
def tL (C : Ct) (W : WX) : Lf → TE
  | .ex f => TD C W f
  | .br i => tVar i
abbrev GL (C : Ct) (X : Cx) (W : WX) (e : Expr) (l : Lf) : Prop := PE X e (tL C W l)
theorem gl_e {f : XF} (h : GE C X W e f) : GL C X W e (.ex f) := h
theorem gl_v {i : Nat} {x : Str} (hN : X.N[i]? = some x) (hv : Vis X.env.scope x) (hd : (x == ("__debug__" : Str)) = false := by decide) (hcd : (x == ("__classdict__" : Str)) = false := by decide) : GL C X W (.Name x pos) (.br i) := pe_var hN hv hd hcd
structure Post2 (K : PySem.W.Frag) (Bx : Addr → Prop) (σ : L2.St) (H : Hp) (e : En) (d1 d2 : D) (e' : En) (v1 v2 : V) (H' : Hp) : Prop where
  fr : Fr σ e H H'
  le : Le σ e e'
  s : Sim K Bx σ H' e'
  o1 : Opd K H' (Avo Bx σ e') v1 d1
  o2 : Opd K H' (Avo Bx σ e') v2 d2
theorem look_run {β : Type} {i : Nat} {g : D → En → Res β} {P : β → En → Prop} {E : Exn → Prop} (s : Sim K Bx σ H e0) (h : ((xB i e0).bind g).run P E) :
    ∃ d v, xB i e0 = .ok d e0 ∧ σ[i]? = some (some v) ∧ Opd K H (Avo Bx σ e0) v d ∧ (g d e0).run P E := by
  cases q : xB i e0 with
  | st => rw [q] at h; exact h.elim
  | ex y => unfold xB at q; split at q <;> cases q
  | ok d e' =>
    rw [q] at h
    obtain ⟨rfl, v, h1, h2⟩ := s.look q
    exact ⟨d, v, rfl, h1, h2, h⟩
/-- THE RULE of two operands -/
theorem two {β : Type} {l : Lf} {g : En → Res D} {k : D → D → En → Res β} {P : β → En → Prop} {R : V → V → Hp → Prop} (s : Sim C.K Bx σ H e0) (q : (xTwo l g k e0).run P (EX C W σ H e0))
    (hR : ∀ d1 d2 e' v1 v2 H', Post2 C.K Bx σ H e0 d1 d2 e' v1 v2 H' → (k d1 d2 e').run P (EX C W σ H e0) → R v1 v2 H') : tL C W l σ H fun x H1 => TDo C W g σ H1 fun y H2 => R x y H2 := by
  cases l with
  | ex f =>
    refine ⟨e0, Bx, s, run_mono (bind_run q) (fun r e1 q v H1 p1 => ?_) fun _ z => z⟩
    refine ⟨e1, Bx, p1.s, run_mono (bind_run q) (fun d2 e2 q v2 H2 p2 => ?_) fun y z => EX.after z p1.fr p1.le⟩
    exact hR _ _ _ _ _ _ ⟨p1.fr.trans p1.le p2.fr, p1.le.trans p2.le, p2.s, .rep (rep_after p1.rp p2.fr p2.le), p2.o⟩ q
  | br i =>
    obtain ⟨d, v, _, hv, _, q⟩ := look_run s q
    refine ⟨v, hv, e0, Bx, s, run_mono (bind_run q) (fun d2 e2 q v2 H2 p2 => ?_) fun y z => z⟩
    obtain ⟨d', v', _, hv', o', q⟩ := look_run p2.s q
    rw [hv] at hv'; cases hv'
    exact hR _ _ _ _ _ _ ⟨p2.fr, p2.le, p2.s, o', p2.o⟩ q
theorem Post.after_2 {d1 d2 : D} {v1 v2 : V} {r : Rs} (h : Post2 K Bx σ H e0 d1 d2 e1 v1 v2 H1) (h' : Post K Bx σ H1 e1 r e' v H') : Post K Bx σ H e0 r e' v H' :=
  ⟨h.fr.trans h.le h'.fr, h.le.trans h'.le, h'.is, fun z p q => Classical.byContradiction fun o => h.fr.there p o (h'.new z p q)⟩
/-- an operation on two values, that leaves the slots as they are -/
def xOp (F : D → D → Option Rs) (l : Lf) (g : En → Res D) : XF := xTwo l g fun x y e => match F x y with | some r => .ok r e | none => .st
/-- F is what the operation r does -/
def OpOk (C : Ct) (F : D → D → Option Rs) (r : R2) : Prop := ∀ (Bx : Addr → Prop) (σ : L2.St) (H : Hp) (e0 : En) (d1 d2 : D) (v1 v2 : V) (z : Rs) (Q : VK), F d1 d2 = some z → Sim C.K Bx σ H e0 →
  Opd C.K H (Avo Bx σ e0) v1 d1 → Opd C.K H (Avo Bx σ e0) v2 d2 → (∀ v H', Post C.K Bx σ H e0 z e0 v H' → Q v H') → r v1 v2 H Q
theorem op_run {F : D → D → Option Rs} {r : R2} {l : Lf} {g : En → Res D} (ho : OpOk C F r) {Q : VK} (h : TD C W (xOp F l g) σ H Q) : tOp r (tL C W l) (TDo C W g) σ H Q := by
  obtain ⟨e0, Bx, s, q⟩ := h
  refine two s q fun d1 d2 e' v1 v2 H' p q => ?_
  cases z : F d1 d2 with
  | none => rw [z] at q; exact q.elim
  | some r => rw [z] at q; exact ho Bx σ H' e' d1 d2 v1 v2 r Q z p.s p.o1 p.o2 fun v H2 p2 => q v H2 (Post.after_2 p p2)
theorem ge_op {F : D → D → Option Rs} {op : Operator} {r : R2} {l : Lf} {g : En → Res D} (hr : OpR X (binaryOp op) r) (ho : OpOk C F r) (ha : GL C X W a l) (hb : GO C X W b g) : GE C X W (.BinOp a op b pos) (xOp F l g) :=
  pe_imp (pe_op hr ha hb) fun _ _ _ h => op_run ho h
theorem ge_cmp {F : D → D → Option Rs} {op : CmpOp} {r : R2} {l : Lf} {g : En → Res D} (hr : OpR X (compareOp op) r) (ho : OpOk C F r) (ha : GL C X W a l) (hb : GO C X W b g) (hm : behindInMarks op b = false) : GE C X W (.Compare a [op] [b] pos) (xOp F l g) :=
  pe_imp (pe_cmpR hr ha hb hm) fun _ _ _ h => op_run ho h
theorem ge_ix {F : D → D → Option Rs} {r : R2} {l : Lf} {g : En → Res D} (hr : IxR X r) (ho : OpOk C F r) (ha : GL C X W a l) (hb : GO C X W b g) (hs : PlainIx b) : GE C X W (.Subscript a b pos) (xOp F l g) :=
  pe_imp (pe_ix hr ha hb hs) fun _ _ _ h => op_run ho h

/-! ### tests -/
def xTest (f : XF) : En → Res Bool := fun e => (f e).bind fun r e1 => match r.d with | .bool b => .ok b e1 | _ => .st
theorem test_run {f : XF} {Q : Bool → Hp → Prop} (h : TDt C W (xTest f) σ H Q) : TD C W f σ H fun x H' => ∃ k, x = .bl k ∧ Q k H' := by
  obtain ⟨e0, Bx, s, q⟩ := h
  refine ⟨e0, Bx, s, run_mono (bind_run q) (fun r e1 q v H1 p => ?_) fun _ z => z⟩
  obtain ⟨d, fr⟩ := r
  cases d with
  | bool k =>
    have z := p.rp
    cases z
    exact ⟨k, rfl, q H1 ⟨p.fr, p.le, p.s⟩⟩
  | _ => exact q.elim
/-- a value that is a bool, as a test (not a comparison, and, or, not, if) -/
theorem gt_e {f : XF} (h : GE C X W e f) (he : ∀ whole, isTrue e X.env whole = (do let v ← whole; standAt e.pos; holding [v] (truthy v)) := by intro _; rfl) : GT C X W e (xTest f) :=
  pt_imp (pt_val h he) fun _ _ _ q => test_run q
theorem gt_cmp {F : D → D → Option Rs} {op : CmpOp} {r : R2} {l : Lf} {g : En → Res D} (hr : OpR X (compareOp op) r) (ho : OpOk C F r) (ha : GL C X W a l) (hb : GO C X W b g) (hm : behindInMarks op b = false) : GT C X W (.Compare a [op] [b] pos) (xTest (xOp F l g)) :=
  pt_imp (pt_cmpR hr ha hb hm) fun _ _ _ h => op_run ho (test_run h)
def tAndT (f g : En → Res Bool) : En → Res Bool := fun e => (f e).bind fun b e1 => if b then g e1 else .ok false e1
def tOrT (f g : En → Res Bool) : En → Res Bool := fun e => (f e).bind fun b e1 => if b then .ok true e1 else g e1
def tNotT (f : En → Res Bool) : En → Res Bool := fun e => (f e).bind fun b e1 => .ok (!b) e1
theorem PostT.after (h : PostT K Bx σ H e0 e1 H1) (h' : PostT K Bx σ H1 e1 e' H') : PostT K Bx σ H e0 e' H' := ⟨h.fr.trans h.le h'.fr, h.le.trans h'.le, h'.s⟩
theorem gw_and1 {f : En → Res Bool} (h : GT C X W a f) : GW C X W (.BoolOp .And [a] pos) f := pw_and1 h
theorem gw_or1 {f : En → Res Bool} (h : GT C X W a f) : GW C X W (.BoolOp .Or [a] pos) f := pw_or1 h
theorem gw_and {f g : En → Res Bool} {rest : List Expr} (h : GT C X W a f) (h' : GW C X W (.BoolOp .And (b :: rest) pos) g) : GW C X W (.BoolOp .And (a :: b :: rest) pos) (tAndT f g) := by
  refine pw_imp (pw_and h h') fun σ H Q ⟨e0, Bx, s, q⟩ => ⟨e0, Bx, s, run_mono (bind_run q) (fun b e1 q H1 p => ?_) fun _ z => z⟩
  cases b with
  | true => exact iteT ⟨e1, Bx, p.s, run_mono q (fun b' e2 q H2 p2 => q H2 (p.after p2)) fun y z => EX.after z p.fr p.le⟩
  | false => exact iteF (q H1 p)
theorem gw_or {f g : En → Res Bool} {rest : List Expr} (h : GT C X W a f) (h' : GW C X W (.BoolOp .Or (b :: rest) pos) g) : GW C X W (.BoolOp .Or (a :: b :: rest) pos) (tOrT f g) := by
  refine pw_imp (pw_or h h') fun σ H Q ⟨e0, Bx, s, q⟩ => ⟨e0, Bx, s, run_mono (bind_run q) (fun b e1 q H1 p => ?_) fun _ z => z⟩
  cases b with
  | false => exact iteF ⟨e1, Bx, p.s, run_mono q (fun b' e2 q H2 p2 => q H2 (p.after p2)) fun y z => EX.after z p.fr p.le⟩
  | true => exact iteT (q H1 p)
theorem gt_w {f : En → Res Bool} (h : GW C X W e f) : GT C X W e f := PW.pt h
theorem gt_not {f : En → Res Bool} (h : GT C X W a f) : GT C X W (.UnaryOp .Not a pos) (tNotT f) :=
  pt_imp (pt_not h) fun σ H Q ⟨e0, Bx, s, q⟩ => ⟨e0, Bx, s, run_mono (bind_run q) (fun b e1 q H1 p => q H1 p) fun _ z => z⟩
/-- .. as values -/
def xAnd (f g : XF) : XF := fun e => (f e).bind fun r e1 => match r.d with | .bool true => g e1 | .bool false => .ok ⟨.bool false, false⟩ e1 | _ => .st
def xOr (f g : XF) : XF := fun e => (f e).bind fun r e1 => match r.d with | .bool true => .ok ⟨.bool true, false⟩ e1 | .bool false => g e1 | _ => .st
def xNot (f : XF) : XF := fun e => (f e).bind fun r e1 => match r.d with | .bool b => .ok ⟨.bool (!b), false⟩ e1 | _ => .st
theorem ge_one {op : BoolOp} {f : XF} (h : GE C X W a f) : GE C X W (.BoolOp op [a] pos) f := pe_one h
theorem ge_and {f g : XF} {rest : List Expr} (h : GE C X W a f) (h' : GE C X W (.BoolOp .And (b :: rest) pos) g) : GE C X W (.BoolOp .And (a :: b :: rest) pos) (xAnd f g) := by
  refine pe_imp (pe_and h h') fun σ H Q ⟨e0, Bx, s, q⟩ => ⟨e0, Bx, s, run_mono (bind_run q) (fun r e1 q v H1 p => ?_) fun _ z => z⟩
  obtain ⟨d, fr⟩ := r
  cases d with
  | bool k =>
    have z := p.rp
    cases z
    refine ⟨k, rfl, ?_⟩
    cases k with
    | true => exact iteT ⟨e1, Bx, p.s, run_mono q (fun b' e2 q v2 H2 p2 => q v2 H2 (p.after p2)) fun y z => EX.after z p.fr p.le⟩
    | false => exact iteF (q _ H1 (.mk0 p.fr p.le p.s (.bl false)))
  | _ => exact q.elim
theorem ge_or {f g : XF} {rest : List Expr} (h : GE C X W a f) (h' : GE C X W (.BoolOp .Or (b :: rest) pos) g) : GE C X W (.BoolOp .Or (a :: b :: rest) pos) (xOr f g) := by
  refine pe_imp (pe_or h h') fun σ H Q ⟨e0, Bx, s, q⟩ => ⟨e0, Bx, s, run_mono (bind_run q) (fun r e1 q v H1 p => ?_) fun _ z => z⟩
  obtain ⟨d, fr⟩ := r
  cases d with
  | bool k =>
    have z := p.rp
    cases z
    refine ⟨k, rfl, ?_⟩
    cases k with
    | false => exact iteF ⟨e1, Bx, p.s, run_mono q (fun b' e2 q v2 H2 p2 => q v2 H2 (p.after p2)) fun y z => EX.after z p.fr p.le⟩
    | true => exact iteT (q _ H1 (.mk0 p.fr p.le p.s (.bl true)))
  | _ => exact q.elim
theorem ge_not {f : XF} (h : GE C X W a f) : GE C X W (.UnaryOp .Not a pos) (xNot f) := by
  refine pe_imp (pe_not h) fun σ H Q ⟨e0, Bx, s, q⟩ => ⟨e0, Bx, s, run_mono (bind_run q) (fun r e1 q v H1 p => ?_) fun _ z => z⟩
  obtain ⟨d, fr⟩ := r
  cases d with
  | bool k =>
    have z := p.rp
    cases z
    exact ⟨k, rfl, q _ H1 (.mk0 p.fr p.le p.s (.bl (!k)))⟩
  | _ => exact q.elim
def xIf (t : En → Res Bool) (f g : XF) : XF := fun e => (t e).bind fun b e1 => if b then f e1 else g e1
theorem Post.after_t {r : Rs} (h : PostT K Bx σ H e0 e1 H1) (h' : Post K Bx σ H1 e1 r e' v H') : Post K Bx σ H e0 r e' v H' :=
  ⟨h.fr.trans h.le h'.fr, h.le.trans h'.le, h'.is, fun z p q => Classical.byContradiction fun o => h.fr.there p o (h'.new z p q)⟩
theorem ge_if {c : Expr} {t : En → Res Bool} {f g : XF} (hc : GT C X W c t) (ha : GE C X W a f) (hb : GE C X W b g) : GE C X W (.IfExp c a b pos) (xIf t f g) := by
  refine pe_imp (pe_ifExp hc ha hb) fun σ H Q ⟨e0, Bx, s, q⟩ => ⟨e0, Bx, s, run_mono (bind_run q) (fun b e1 q H1 p => ?_) fun _ z => z⟩
  cases b with
  | true => exact iteT ⟨e1, Bx, p.s, run_mono q (fun b' e2 q v2 H2 p2 => q v2 H2 (Post.after_t p p2)) fun y z => EX.after z p.fr p.le⟩
  | false => exact iteF ⟨e1, Bx, p.s, run_mono q (fun b' e2 q v2 H2 p2 => q v2 H2 (Post.after_t p p2)) fun y z => EX.after z p.fr p.le⟩
/-- one operand -/
def xOne (F : D → Option Rs) (g : En → Res D) : XF := fun e => (g e).bind fun d e1 => match F d with | some r => .ok r e1 | none => .st
theorem Post.after_o {r : Rs} {d1 : D} {v1 : V} (h : PostO K Bx σ H e0 d1 e1 v1 H1) (h' : Post K Bx σ H1 e1 r e' v H') : Post K Bx σ H e0 r e' v H' :=
  ⟨h.fr.trans h.le h'.fr, h.le.trans h'.le, h'.is, fun z p q => Classical.byContradiction fun o => h.fr.there p o (h'.new z p q)⟩
def UnOk (C : Ct) (F : D → Option Rs) (r : V → Hp → VK → Prop) : Prop := ∀ (Bx : Addr → Prop) (σ : L2.St) (H : Hp) (e0 : En) (d1 : D) (v1 : V) (z : Rs) (Q : VK), F d1 = some z → Sim C.K Bx σ H e0 →
  Opd C.K H (Avo Bx σ e0) v1 d1 → (∀ v H', Post C.K Bx σ H e0 z e0 v H' → Q v H') → r v1 H Q
theorem un_run {F : D → Option Rs} {r : V → Hp → VK → Prop} {g : En → Res D} (ho : UnOk C F r) {Q : VK} (h : TD C W (xOne F g) σ H Q) : TDo C W g σ H fun x H1 => r x H1 Q := by
  obtain ⟨e0, Bx, s, q⟩ := h
  refine ⟨e0, Bx, s, run_mono (bind_run q) (fun d e1 q v H1 p => ?_) fun _ z => z⟩
  cases z : F d with
  | none => rw [z] at q; exact q.elim
  | some r => rw [z] at q; exact ho Bx σ H1 e1 d v r Q z p.s p.o fun v H2 p2 => q v H2 (Post.after_o p p2)
theorem ge_un {F : D → Option Rs} {op : UnaryOp} {r : V → Hp → VK → Prop} {g : En → Res D} (hr : UnR X (unaryOp op) r) (ho : UnOk C F r) (ha : GO C X W a g) : GE C X W (.UnaryOp op a pos) (xOne F g) :=
  pe_imp (pe_un hr ha) fun _ _ _ h => un_run ho h
end
end G
end L2
namespace L2
namespace G
open PySem PySem.Spec PyProof.Rows

inductive Fl where
  | nx | ct | rt (r : Rs)
abbrev SF := En → Res Fl
structure SPost (K : PySem.W.Frag) (Bx : Addr → Prop) (io : List Nat) (σ : L2.St) (H : Hp) (e : En) (σ' : L2.St) (H' : Hp) (e' : En) : Prop where
  k : Fr σ e H H'
  wr : ∀ a, Wr σ' e' a → Wr σ e a ∨ H a = none
  av : ∀ a, Av σ' e' a → Av σ e a ∨ H a = none
  s : Sim K Bx σ' H' e'
  io : ∀ i ∈ io, σ'[i]? = σ[i]?
  len : σ'.length = σ.length
structure RPost (K : PySem.W.Frag) (Bx : Addr → Prop) (io : List Nat) (σ : L2.St) (H : Hp) (e : En) (r : Rs) (σ' : L2.St) (H' : Hp) (e' : En) (v : V) : Prop where
  k : Fr σ e H H'
  av : ∀ a, Av σ' e' a → Av σ e a ∨ H a = none
  is : Holds K Bx σ' H' e' r v
  new : r.fr = true → ∀ p, v = .ref p → Wr σ e p ∨ H p = none
  io : ∀ i ∈ io, σ'[i]? = σ[i]?
def FlP (K : PySem.W.Frag) (Bx : Addr → Prop) (io : List Nat) (σ : L2.St) (H : Hp) (e : En) (Dd : Ends) (fl : Fl) (e' : En) : Prop := match fl with
  | .nx => ∀ σ' H', SPost K Bx io σ H e σ' H' e' → Dd.nx σ' H'
  | .ct => ∀ σ' H', SPost K Bx io σ H e σ' H' e' → Dd.ct σ' H'
  | .rt r => ∀ σ' v H', RPost K Bx io σ H e r σ' H' e' v → Dd.rt v H'
def TDs (C : Ct) (W : WX) (io : List Nat) (f : SF) : TS := fun Dd σ H => ∃ e Bx, Sim C.K Bx σ H e ∧ (f e).run (FlP C.K Bx io σ H e Dd) (EX C W σ H e)
abbrev GS (C : Ct) (X : Cx) (W : WX) (io : List Nat) (st : Stmt) (f : SF) : Prop := PS X st (TDs C W io f)
abbrev GSs (C : Ct) (X : Cx) (W : WX) (io : List Nat) (st : List Stmt) (f : SF) : Prop := PSs X st (TDs C W io f)
theorem ps_imp {X : Cx} {st : Stmt} {t t' : TS} (h : PS X st t) (i : ∀ D σ H, t' D σ H → t D σ H) : PS X st t' := ⟨fun pins s σ H D I q => h.run pins s σ H D I (i D σ H q)⟩
theorem pss_imp {X : Cx} {st : List Stmt} {t t' : TS} (h : PSs X st t) (i : ∀ D σ H, t' D σ H → t D σ H) : PSs X st t' := ⟨fun pins s σ H D I q => h.run pins s σ H D I (i D σ H q)⟩
theorem pg_imp {X : Cx} {e : Expr} {t t' : TG} (h : PG X e t) (i : ∀ v σ H Q, t' v σ H Q → t v σ H Q) : PG X e t' := ⟨fun pins s σ H v u Q I r q => h.run pins s σ H v u Q I r (i v σ H Q q)⟩
theorem pgs_imp {X : Cx} {e : List Expr} {t t' : TGs} (h : PGs X e t) (i : ∀ v σ H Q, t' v σ H Q → t v σ H Q) : PGs X e t' := ⟨fun pins s σ H v u Q I r q => h.run pins s σ H v u Q I r (i v σ H Q q)⟩

section
variable {C : Ct} {X : Cx} {W : WX} {K : PySem.W.Frag} {Bx : Addr → Prop} {io : List Nat} {σ σ' σ1 σ2 : L2.St} {H H' H1 H2 : Hp} {e0 e' e1 e2 : En} {e a b : Expr} {pos : Pos} {d : D} {v : V} {st : Stmt} {r : Rs} {p : Addr}

theorem Fr.transS (h : Fr σ e0 H H1) (w : ∀ a, Wr σ1 e1 a → Wr σ e0 a ∨ H a = none) (h' : Fr σ1 e1 H1 H') : Fr σ e0 H H' :=
  ⟨fun a o q n => h'.keep a o (h.keep a o q n) fun z => (w a z).elim n fun z => (by rw [z] at q; cases q), fun a n => h'.there a (h.there a n), fun a xs q => h'.tup a xs (h.tup a xs q)⟩
theorem orS {P1 P Q1 : Prop} (h : P1 → P ∨ H p = none) (n : H1 p = none → H p = none) (q : P1 ∨ H1 p = none) : P ∨ H p = none := q.elim h fun z => .inr (n z)
theorem Fr.new (h : Fr σ e0 H H1) (z : H1 p = none) : H p = none := Classical.byContradiction fun o => h.there p o z
theorem SPost.refl (s : Sim K Bx σ H e0) : SPost K Bx io σ H e0 σ H e0 := ⟨.refl, fun _ z => .inl z, fun _ z => .inl z, s, fun _ _ => rfl, rfl⟩
theorem SPost.trans (h : SPost K Bx io σ H e0 σ1 H1 e1) (h' : SPost K Bx io σ1 H1 e1 σ' H' e') : SPost K Bx io σ H e0 σ' H' e' :=
  ⟨h.k.transS h.wr h'.k, fun a z => (h'.wr a z).elim (h.wr a) fun z => .inr (h.k.new z), fun a z => (h'.av a z).elim (h.av a) fun z => .inr (h.k.new z), h'.s, fun i m => (h'.io i m).trans (h.io i m), h'.len.trans h.len⟩
theorem SPost.ret {r : Rs} (h : SPost K Bx io σ H e0 σ1 H1 e1) (h' : RPost K Bx io σ1 H1 e1 r σ' H' e' v) : RPost K Bx io σ H e0 r σ' H' e' v :=
  ⟨h.k.transS h.wr h'.k, fun a z => (h'.av a z).elim (h.av a) fun z => .inr (h.k.new z), h'.is, fun z p q => (h'.new z p q).elim (h.wr p) fun z => .inr (h.k.new z), fun i m => (h'.io i m).trans (h.io i m)⟩
theorem EX.afterS {x : Exn} (h : EX C W σ H e0 x) (p : SPost K Bx io σ H e0 σ1 H1 e1) : EX C W σ1 H1 e1 x := fun cls d σ' H' q r f => h cls d σ' H' (q.trans p.len) r (p.k.transS p.wr f)
/-- behind a test, an expression: the slots stand -/
theorem SPost.of (fr : Fr σ e0 H H1) (le : Le σ e0 e1) (s : Sim K Bx σ H1 e1) : SPost K Bx io σ H e0 σ H1 e1 := ⟨fr, fun a z => .inl (le.wr a z), fun a z => .inl (le.av a z), s, fun _ _ => rfl, rfl⟩
theorem FlP.after {Dd : Ends} (h : SPost K Bx io σ H e0 σ1 H1 e1) : ∀ fl e', FlP K Bx io σ H e0 Dd fl e' → FlP K Bx io σ1 H1 e1 Dd fl e'
  | .nx, _, q => fun σ' H' p => q σ' H' (h.trans p)
  | .ct, _, q => fun σ' H' p => q σ' H' (h.trans p)
  | .rt r, _, q => fun σ' v H' p => q σ' v H' (h.ret p)
theorem run_after {Dd : Ends} {x : Res Fl} (h : SPost C.K Bx io σ H e0 σ1 H1 e1) (q : x.run (FlP C.K Bx io σ H e0 Dd) (EX C W σ H e0)) : x.run (FlP C.K Bx io σ1 H1 e1 Dd) (EX C W σ1 H1 e1) :=
  run_mono q (FlP.after h) fun y z => EX.afterS z h

/-! ### blocks -/
def sNil : SF := fun e => .ok .nx e
def sSeq (f g : SF) : SF := fun e => (f e).bind fun fl e1 => match fl with | .nx => g e1 | fl => .ok fl e1
theorem gss_nil : GSs C X W io [] sNil := pss_imp pss_nil fun D σ H ⟨e, Bx, s, q⟩ => q σ H (.refl s)
theorem gss_cons {rest : List Stmt} {f g : SF} (h : GS C X W io st f) (h' : GSs C X W io rest g) : GSs C X W io (st :: rest) (sSeq f g) := by
  refine pss_imp (pss_cons h h') fun D σ H ⟨e, Bx, s, q⟩ => ⟨e, Bx, s, run_mono (bind_run q) (fun fl e1 q => ?_) fun _ z => z⟩
  cases fl with
  | nx => exact fun σ' H' p => ⟨e1, Bx, p.s, run_after p q⟩
  | ct => exact q
  | rt r => exact q
theorem gss_one {f : SF} (h : GS C X W io st f) : GSs C X W io [st] f := pss_one h
theorem gs_pass : GS C X W io (.Pass pos) sNil := ps_imp ps_pass fun D σ H ⟨e, Bx, s, q⟩ => q σ H (.refl s)
theorem gs_cont : GS C X W io (.Continue pos) (fun e => .ok .ct e) := ps_imp ps_continue fun D σ H ⟨e, Bx, s, q⟩ => q σ H (.refl s)
def sExpr (f : XF) : SF := fun e => (f e).bind fun _ e1 => .ok .nx e1
theorem gs_expr {f : XF} (h : GE C X W e f) (hs : swapsWith e none pos.line X.env = pure false := by rfl) : GS C X W io (.Expr e pos) (sExpr f) :=
  ps_imp (ps_expr h hs) fun D σ H ⟨e, Bx, s, q⟩ => ⟨e, Bx, s, run_mono (bind_run q) (fun r e1 q v H1 p => q σ H1 (.of p.fr p.le p.s)) fun _ z => z⟩
def sRet (f : XF) : SF := fun e => (f e).bind fun r e1 => .ok (.rt r) e1
theorem gs_ret {f : XF} (h : GE C X W e f) : GS C X W io (.Return (some e) pos) (sRet f) :=
  ps_imp (ps_ret h) fun D σ H ⟨e, Bx, s, q⟩ => ⟨e, Bx, s, run_mono (bind_run q) (fun r e1 q v H1 p => q σ v H1 ⟨p.fr, fun a z => .inl (p.le.av a z), p.is, fun z u w => .inr (p.new z u w), fun _ _ => rfl⟩) fun _ z => z⟩
theorem gs_retN : GS C X W io (.Return none pos) (sRet (xC .none)) :=
  ps_imp ps_retN fun D σ H ⟨e, Bx, s, q⟩ => q σ _ H ⟨.refl, fun a z => .inl z, ⟨s, .non⟩, (fun z => nomatch z), fun _ _ => rfl⟩
/-- return x, x an own list of this def: it goes out as a new one -/
def sRetV (i : Nat) : SF := fun e => match e[i]? with
  | some (Sl.ow true d) => .ok (.rt ⟨d, true⟩) (e.set i .un)
  | some (Sl.sh d) => .ok (.rt ⟨d, false⟩) e
  | _ => .st
def sIf (t : En → Res Bool) (f g : SF) : SF := fun e => (t e).bind fun b e1 => if b then f e1 else g e1
theorem gs_if {c : Expr} {x y : List Stmt} {t : En → Res Bool} {f g : SF} (hc : GT C X W c t) (ha : GSs C X W io x f) (hb : GSs C X W io y g) : GS C X W io (.If c x y pos) (sIf t f g) := by
  refine ps_imp (ps_if hc ha hb) fun D σ H ⟨e, Bx, s, q⟩ => ⟨e, Bx, s, run_mono (bind_run q) (fun b e1 q H1 p => ?_) fun _ z => z⟩
  have sp : SPost C.K Bx io σ H e σ H1 e1 := .of p.fr p.le p.s
  cases b with
  | true => exact iteT ⟨e1, Bx, p.s, run_after sp q⟩
  | false => exact iteF ⟨e1, Bx, p.s, run_after sp q⟩

/-! ### targets -/
structure GPost (K : PySem.W.Frag) (Bx : Addr → Prop) (io : List Nat) (σ : L2.St) (H : Hp) (e : En) (r : Rs) (v : V) (σ' : L2.St) (e' : En) : Prop where
  s : Sim K Bx σ' H e'
  wr : ∀ a, Wr σ' e' a → Wr σ e a ∨ (r.fr = true ∧ v = .ref a)
  av : ∀ a, Av σ' e' a → Av σ e a ∨ (r.fr = true ∧ v = .ref a)
  io : ∀ i ∈ io, σ'[i]? = σ[i]?
  len : σ'.length = σ.length
def TDg (C : Ct) (io : List Nat) (g : Rs → En → Option En) : TG := fun v σ H Q => ∃ e Bx r e', Holds C.K Bx σ H e r v ∧ g r e = some e' ∧ ∀ σ', GPost C.K Bx io σ H e r v σ' e' → Q σ' H
structure GPosts (K : PySem.W.Frag) (Bx : Addr → Prop) (io : List Nat) (σ : L2.St) (H : Hp) (e : En) (σ' : L2.St) (e' : En) : Prop where
  s : Sim K Bx σ' H e'
  wr : ∀ a, Wr σ' e' a → Wr σ e a
  av : ∀ a, Av σ' e' a → Av σ e a
  io : ∀ i ∈ io, σ'[i]? = σ[i]?
  len : σ'.length = σ.length
def TDgs (C : Ct) (io : List Nat) (g : List D → En → Option En) : TGs := fun vs σ H Q => ∃ e Bx ds e', Sim C.K Bx σ H e ∧ Reps C.K H (Avo Bx σ e) vs ds ∧ g ds e = some e' ∧ ∀ σ', GPosts C.K Bx io σ H e σ' e' → Q σ' H
abbrev GG (C : Ct) (X : Cx) (io : List Nat) (tg : Expr) (g : Rs → En → Option En) : Prop := PG X tg (TDg C io g)
abbrev GGs (C : Ct) (X : Cx) (io : List Nat) (tg : List Expr) (g : List D → En → Option En) : Prop := PGs X tg (TDgs C io g)
theorem set_st {i j : Nat} {z : V} {y : Option V} (h : (σ.set i (some z))[j]? = some y) : (j = i ∧ y = some z) ∨ (j ≠ i ∧ σ[j]? = some y) := by
  by_cases c : i = j
  · subst c
    by_cases hl : i < σ.length
    · rw [List.getElem?_set_self hl] at h; exact .inl ⟨rfl, (Option.some.inj h).symm⟩
    · rw [List.getElem?_eq_none (by simpa using hl)] at h; cases h
  · rw [List.getElem?_set_ne c] at h; exact .inr ⟨fun q => c q.symm, h⟩
theorem st_set {i j : Nat} {z : V} (c : j ≠ i) : (σ.set i (some z))[j]? = σ[j]? := List.getElem?_set_ne (Ne.symm c)
theorem en_lt {i : Nat} {y : Sl} (h : e0[i]? = some y) : i < e0.length := (List.getElem?_eq_some_iff.mp h).1
/-- a slot is stored: shared data -/
theorem Sim.setSh {i : Nat} (s : Sim K Bx σ H e0) (hi : i < e0.length) (rp : Rep K H (Avo Bx σ e0) v d) :
    Sim K Bx (σ.set i (some v)) H (e0.set i (.sh d)) ∧ (∀ a, Wr (σ.set i (some v)) (e0.set i (.sh d)) a → Wr σ e0 a) ∧ ∀ a, Av (σ.set i (some v)) (e0.set i (.sh d)) a → Av σ e0 a := by
  have hi' : i < σ.length := by rw [← s.len]; exact hi
  have wr : ∀ a, Wr (σ.set i (some v)) (e0.set i (.sh d)) a → Wr σ e0 a := fun a ⟨j, d', h1, h2⟩ => by
    rcases set_look h1 with ⟨_, z⟩ | ⟨n, z⟩
    · cases z
    · rw [st_set n] at h2; exact ⟨j, d', z, h2⟩
  have av : ∀ a, Av (σ.set i (some v)) (e0.set i (.sh d)) a → Av σ e0 a := fun a ⟨j, w', d', h1, h2⟩ => by
    rcases set_look h1 with ⟨_, z⟩ | ⟨n, z⟩
    · cases z
    · rw [st_set n] at h2; exact ⟨j, w', d', z, h2⟩
  have an : ∀ a, Avo Bx (σ.set i (some v)) (e0.set i (.sh d)) a → Avo Bx σ e0 a := fun a z => z.imp (av a) id
  refine ⟨⟨by simpa using s.len, fun j d' h1 => ?_, fun j w' d' h1 => ?_, fun j k w' w'' d' d'' a h1 h2 h3 h4 => ?_, s.bx⟩, wr, av⟩
  · rcases set_look h1 with ⟨rfl, z⟩ | ⟨n, z⟩
    · cases z; exact ⟨v, List.getElem?_set_self hi', rp.anti an⟩
    · obtain ⟨u, r1, r2⟩ := s.sh j d' z
      exact ⟨u, by rw [st_set n]; exact r1, r2.anti an⟩
  · rcases set_look h1 with ⟨_, z⟩ | ⟨n, z⟩
    · cases z
    · obtain ⟨a, r1, r2, r3⟩ := s.ow j w' d' z
      exact ⟨a, by rw [st_set n]; exact r1, r2, r3.anti an⟩
  · rcases set_look h1 with ⟨_, z⟩ | ⟨n, z⟩
    · cases z
    · rcases set_look h2 with ⟨_, z'⟩ | ⟨n', z'⟩
      · cases z'
      · rw [st_set n] at h3; rw [st_set n'] at h4
        exact s.inj j k _ _ _ _ a z z' h3 h4
/-- an own list -/
theorem Sim.setOw {i : Nat} (s : Sim K (ad Bx p) σ H e0) (nb : ¬ Bx p) (hi : i < e0.length) (t : Top K H (Avo (ad Bx p) σ e0) p d) :
    Sim K Bx (σ.set i (some (.ref p))) H (e0.set i (.ow true d)) ∧ (∀ a, Wr (σ.set i (some (.ref p))) (e0.set i (.ow true d)) a → Wr σ e0 a ∨ a = p) ∧ ∀ a, Av (σ.set i (some (.ref p))) (e0.set i (.ow true d)) a → Av σ e0 a ∨ a = p := by
  have hi' : i < σ.length := by rw [← s.len]; exact hi
  have wr : ∀ a, Wr (σ.set i (some (.ref p))) (e0.set i (.ow true d)) a → Wr σ e0 a ∨ a = p := fun a ⟨j, d', h1, h2⟩ => by
    rcases set_look h1 with ⟨rfl, z⟩ | ⟨n, z⟩
    · rw [List.getElem?_set_self hi'] at h2; cases h2; exact .inr rfl
    · rw [st_set n] at h2; exact .inl ⟨j, d', z, h2⟩
  have av : ∀ a, Av (σ.set i (some (.ref p))) (e0.set i (.ow true d)) a → Av σ e0 a ∨ a = p := fun a ⟨j, w', d', h1, h2⟩ => by
    rcases set_look h1 with ⟨rfl, z⟩ | ⟨n, z⟩
    · rw [List.getElem?_set_self hi'] at h2; cases h2; exact .inr rfl
    · rw [st_set n] at h2; exact .inl ⟨j, w', d', z, h2⟩
  have an : ∀ a, Avo Bx (σ.set i (some (.ref p))) (e0.set i (.ow true d)) a → Avo (ad Bx p) σ e0 a := fun a z => by
    rcases z with z | z
    · exact (av a z).imp id .inr
    · exact .inr (.inl z)
  have np : ∀ j w' d', e0[j]? = some (Sl.ow w' d') → σ[j]? = some (some (V.ref p)) → False := fun j w' d' h1 h2 => by
    obtain ⟨a, r1, r2, _⟩ := s.ow j w' d' h1
    rw [h2] at r1; cases r1
    exact r2 (.inr rfl)
  refine ⟨⟨by simpa using s.len, fun j d' h1 => ?_, fun j w' d' h1 => ?_, fun j k w' w'' d' d'' a h1 h2 h3 h4 => ?_, fun a z => s.bx a (.inl z)⟩, wr, av⟩
  · rcases set_look h1 with ⟨_, z⟩ | ⟨n, z⟩
    · cases z
    · obtain ⟨u, r1, r2⟩ := s.sh j d' z
      exact ⟨u, by rw [st_set n]; exact r1, r2.anti an⟩
  · rcases set_look h1 with ⟨rfl, z⟩ | ⟨n, z⟩
    · cases z; exact ⟨p, List.getElem?_set_self hi', nb, t.anti an⟩
    · obtain ⟨a, r1, r2, r3⟩ := s.ow j w' d' z
      exact ⟨a, by rw [st_set n]; exact r1, fun z => r2 (.inl z), r3.anti an⟩
  · rcases set_look h1 with ⟨rfl, z⟩ | ⟨n, z⟩
    · rw [List.getElem?_set_self hi'] at h3; cases h3
      rcases set_look h2 with ⟨rfl, z'⟩ | ⟨n', z'⟩
      · rfl
      · rw [st_set n'] at h4; exact (np k _ _ z' h4).elim
    · rw [st_set n] at h3
      rcases set_look h2 with ⟨rfl, z'⟩ | ⟨n', z'⟩
      · rw [List.getElem?_set_self hi'] at h4; cases h4
        exact (np j _ _ z h3).elim
      · rw [st_set n'] at h4
        exact s.inj j k _ _ _ _ a z z' h3 h4
def slOf (r : Rs) : Sl := if r.fr then .ow true r.d else .sh r.d
def gV (i : Nat) : Rs → En → Option En := fun r e => if i < e.length then some (e.set i (slOf r)) else none
theorem gg_v {i : Nat} {x : Str} (hN : X.N.Nodup) (hi : X.N[i]? = some x) (hx : Loc X.env.scope x) (hio : i ∉ io) (hf : X.fn x = true ∨ X.env.scope.names.lookup x = some .local := by first | exact .inl rfl | exact .inr rfl | assumption) : GG C X io (.Name x pos) (gV i) := by
  refine pg_imp (pg_name hN hi hx hf) fun v σ H Q ⟨e, Bx, r, e', hh, hg, q⟩ => q _ ?_
  unfold gV at hg
  split at hg
  · rename_i hl
    cases hg
    obtain ⟨d, fr⟩ := r
    cases fr with
    | false =>
      obtain ⟨s, rp⟩ := hh
      obtain ⟨s', wr, av⟩ := s.setSh hl rp
      exact ⟨s', fun a z => .inl (wr a z), fun a z => .inl (av a z), fun j m => st_set fun z => hio (z ▸ m), by simp⟩
    | true =>
      obtain ⟨p, rfl, nb, s, t⟩ := hh
      obtain ⟨s', wr, av⟩ := s.setOw nb hl t
      exact ⟨s', fun a z => (wr a z).imp id fun z => ⟨rfl, by rw [z]⟩, fun a z => (av a z).imp id fun z => ⟨rfl, by rw [z]⟩, fun j m => st_set fun z => hio (z ▸ m), by simp⟩
  · cases hg
def gsNil : List D → En → Option En := fun ds e => if ds.isEmpty then some e else none
def gsCons (g : Rs → En → Option En) (h : List D → En → Option En) : List D → En → Option En := fun ds e => match ds with
  | d :: ds => (g ⟨d, false⟩ e).bind fun e1 => h ds e1
  | [] => none
theorem ggs_nil : GGs C X io [] gsNil := pgs_imp pgs_nil fun vs σ H Q ⟨e, Bx, ds, e', s, rp, hg, q⟩ => by
  unfold gsNil at hg
  cases ds with
  | nil => cases rp; cases hg; exact ⟨rfl, q σ ⟨s, fun _ z => z, fun _ z => z, fun _ _ => rfl, rfl⟩⟩
  | cons d ds => cases hg
theorem ggs_cons {es : List Expr} {g : Rs → En → Option En} {h : List D → En → Option En} (h1 : GG C X io e g) (h2 : GGs C X io es h) (hs : (assignEach (e :: es) X.env).map (·.2) = assign e X.env :: (assignEach es X.env).map (·.2) := by rfl) : GGs C X io (e :: es) (gsCons g h) :=
  pgs_imp (pgs_cons h1 h2 hs) fun vs σ H Q ⟨e, Bx, ds, e', s, rp, hg, q⟩ => by
    cases ds with
    | nil => cases hg
    | cons d ds =>
      cases rp with
      | @cons v vs _ _ r1 r2 =>
        have hg' : (g ⟨d, false⟩ e).bind (fun e1 => h ds e1) = some e' := hg
        cases z : g ⟨d, false⟩ e with
        | none => rw [z] at hg'; cases hg'
        | some e1 =>
          rw [z] at hg'
          refine ⟨v, vs, rfl, e, Bx, ⟨d, false⟩, e1, ⟨s, r1⟩, z, fun σ1 p1 => ?_⟩
          have av : ∀ a, Av σ1 e1 a → Av σ e a := fun a z => (p1.av a z).elim id fun q => nomatch q.1
          have wr : ∀ a, Wr σ1 e1 a → Wr σ e a := fun a z => (p1.wr a z).elim id fun q => nomatch q.1
          refine ⟨e1, Bx, ds, e', p1.s, r2.anti fun a z => z.imp (av a) id, hg', fun σ2 p2 => q σ2 ⟨p2.s, fun a z => wr a (p2.wr a z), fun a z => av a (p2.av a z), fun i m => (p2.io i m).trans (p1.io i m), p2.len.trans p1.len⟩⟩
def gTp (n : Nat) (h : List D → En → Option En) : Rs → En → Option En := fun r e => match r.d with
  | .tuple ds => if ds.length = n then h ds e else none
  | _ => none
theorem gg_tup {es : List Expr} {k n : Nat} {h : List D → En → Option En} (hc : X.calm = true) (hK : X.K = C.K) (hh : GGs C X io es h) (hn : (assignEach es X.env).length = n := by rfl) (hst : (assignEach es X.env).findIdx? (·.1) = none := by rfl) : GG C X io (.Tuple es k pos) (gTp n h) :=
  pg_imp (pg_tup hc hh hn hst) fun v σ H Q ⟨e, Bx, r, e', hs, hg, q⟩ => by
    obtain ⟨d, fr⟩ := r
    have hsh := hs.sh
    cases d with
    | tuple ds =>
      have hg' : (if ds.length = n then h ds e else none) = some e' := hg
      split at hg'
      · rename_i hl
        obtain ⟨s, rp⟩ := hsh
        cases rp with
        | @tup a xs _ sq rs =>
          refine ⟨a, xs, rfl, by rw [hK]; exact sq, by rw [rs.length]; exact hl, e, Bx, ds, e', s, rs, hg', fun σ' p => q σ' ⟨p.s, fun a z => .inl (p.wr a z), fun a z => .inl (p.av a z), p.io, p.len⟩⟩
      · cases hg'
    | _ => cases hg
def sAsg (f : XF) (g : Rs → En → Option En) : SF := fun e => (f e).bind fun r e1 => match g r e1 with | some e2 => .ok .nx e2 | none => .st
theorem asg_run {f : XF} {g : Rs → En → Option En} {Dd : Ends} (h : TDs C W io (sAsg f g) Dd σ H) : tAsg (TD C W f) (TDg C io g) Dd σ H := by
  obtain ⟨e, Bx, s, q⟩ := h
  refine ⟨e, Bx, s, run_mono (bind_run q) (fun r e1 q v H1 p => ?_) fun _ z => z⟩
  cases z : g r e1 with
  | none => rw [z] at q; exact q.elim
  | some e2 =>
    rw [z] at q
    refine ⟨e1, Bx, r, e2, p.is, z, fun σ' g' => q σ' H1 ⟨p.fr.trans .refl ?_, fun a w => ?_, fun a w => ?_, g'.s, g'.io, g'.len⟩⟩
    · exact .refl
    · exact (g'.wr a w).elim (fun z => .inl (p.le.wr a z)) fun z => .inr (p.new z.1 a z.2)
    · exact (g'.av a w).elim (fun z => .inl (p.le.av a z)) fun z => .inr (p.new z.1 a z.2)
theorem gs_asg {tg : Expr} {f : XF} {g : Rs → En → Option En} (he : GE C X W e f) (hg : GG C X io tg g) (hs : swapsWithSole [tg] e pos.line X.env = pure false := by rfl) (hw : swappedStores [tg] e X.env = pure none := by rfl)
    (h1 : (assignEach [tg] X.env).map (·.2) = [assign tg X.env] := by rfl) : GS C X W io (.Assign [tg] e pos) (sAsg f g) := ps_imp (ps_asg he hg hs hw h1) fun _ _ _ h => asg_run h
end
end G
end L2
namespace L2
namespace G
open PySem PySem.Spec PyProof.Rows
section
variable {C : Ct} {X : Cx} {W : WX} {K : PySem.W.Frag} {Bx : Addr → Prop} {io : List Nat} {σ σ' σ1 σ2 : L2.St} {H H' H1 H2 : Hp} {e0 e' e1 e2 : En} {e a b : Expr} {pos : Pos} {d : D} {v : V} {st : Stmt} {r : Rs} {p : Addr}

/-! ### own lists let go, written -/
theorem Sim.drop {i : Nat} {w : Bool} (s : Sim K Bx σ H e0) (h : e0[i]? = some (Sl.ow w d)) (hp : σ[i]? = some (some (V.ref p))) :
    ¬ Bx p ∧ Sim K (ad Bx p) σ H (e0.set i .un) ∧ Top K H (Avo (ad Bx p) σ (e0.set i .un)) p d ∧ Le σ e0 (e0.set i .un) := by
  obtain ⟨p', q1, q2, q3⟩ := s.ow i w d h
  rw [hp] at q1; cases q1
  have av : ∀ a, Av σ (e0.set i .un) a → Av σ e0 a := fun a ⟨j, w', d', h1, h2⟩ => by
    rcases set_look h1 with ⟨_, z⟩ | ⟨_, z⟩
    · cases z
    · exact ⟨j, w', d', z, h2⟩
  have wr : ∀ a, Wr σ (e0.set i .un) a → Wr σ e0 a := fun a ⟨j, d', h1, h2⟩ => by
    rcases set_look h1 with ⟨_, z⟩ | ⟨_, z⟩
    · cases z
    · exact ⟨j, d', z, h2⟩
  have an : ∀ a, Avo (ad Bx p) σ (e0.set i .un) a → Avo Bx σ e0 a := fun a z => by
    rcases z with z | z | z
    · exact .inl (av a z)
    · exact .inr z
    · rw [z]; exact .inl ⟨i, w, d, h, hp⟩
  refine ⟨q2, ⟨by rw [List.length_set]; exact s.len, fun j d' h1 => ?_, fun j w' d' h1 => ?_, fun j k w' w'' d' d'' a h1 h2 h3 h4 => ?_, fun a z => ?_⟩, q3.anti an, wr, av⟩
  · rcases set_look h1 with ⟨rfl, z⟩ | ⟨_, z⟩
    · cases z
    · obtain ⟨v, r1, r2⟩ := s.sh j d' z
      exact ⟨v, r1, r2.anti an⟩
  · rcases set_look h1 with ⟨_, z⟩ | ⟨n, z⟩
    · cases z
    · obtain ⟨a, r1, r2, r3⟩ := s.ow j w' d' z
      refine ⟨a, r1, fun q => ?_, r3.anti an⟩
      rcases q with q | q
      · exact r2 q
      · subst q; exact n (s.inj j i _ _ _ _ a z h r1 hp)
  · rcases set_look h1 with ⟨_, z⟩ | ⟨_, z⟩
    · cases z
    · rcases set_look h2 with ⟨_, z'⟩ | ⟨_, z'⟩
      · cases z'
      · exact s.inj j k _ _ _ _ a z z' h3 h4
  · rcases z with z | z
    · exact s.bx a z
    · rw [z]; exact s.there ⟨i, w, d, h, hp⟩
theorem gs_retV {i : Nat} {x : Str} {np : Pos} (hN : X.N[i]? = some x) (hv : Vis X.env.scope x) (hd : (x == ("__debug__" : Str)) = false := by decide) (hcd : (x == ("__classdict__" : Str)) = false := by decide) : GS C X W io (.Return (some (.Name x np)) pos) (sRetV i) := by
  refine ps_imp (ps_ret (pe_var hN hv hd hcd)) fun D σ H ⟨e, Bx, s, q⟩ => ?_
  unfold sRetV at q
  split at q
  · rename_i d z
    obtain ⟨p, h1, _, _⟩ := s.ow i true d z
    obtain ⟨nb, s', t, le⟩ := s.drop z h1
    exact ⟨_, h1, q σ _ H ⟨.refl, fun a z => .inl (le.av a z), ⟨p, rfl, nb, s', t⟩, fun _ _ w => .inl (by cases w; exact ⟨i, d, z, h1⟩), fun _ _ => rfl⟩⟩
  · rename_i d z
    obtain ⟨v, h1, h2⟩ := s.sh i d z
    exact ⟨v, h1, q σ v H ⟨.refl, fun a z => .inl z, ⟨s, h2⟩, (fun z => nomatch z), fun _ _ => rfl⟩⟩
  · exact q.elim
/-- an own thing is written -/
theorem Sim.writeG {i : Nat} {d dn : D} {u o : HO} (s : Sim K Bx σ H e0) (h : e0[i]? = some (Sl.ow true d)) (hp : σ[i]? = some (some (V.ref p))) (ho : H p = some u) (mo : Mo u) (tn : Kp (Avo Bx σ e0) H (upd H p o) → Top K (upd H p o) (Avo Bx σ e0) p dn) :
    Sim K Bx σ (upd H p o) (e0.set i (.ow true dn)) ∧ Fr σ e0 H (upd H p o) ∧ Le σ e0 (e0.set i (.ow true dn)) := by
  have pw : Wr σ e0 p := ⟨i, d, h, hp⟩
  have fr : Fr σ e0 H (upd H p o) := .write ho mo pw
  have fa : Kp (Avo Bx σ e0) H (upd H p o) := .write ho mo (.inl pw.av)
  have av : ∀ a, Av σ (e0.set i (.ow true dn)) a → Av σ e0 a := fun a ⟨j, w', d', h1, h2⟩ => by
    rcases set_look h1 with ⟨rfl, z⟩ | ⟨_, z⟩
    · rw [hp] at h2; cases h2; exact pw.av
    · exact ⟨j, w', d', z, h2⟩
  have wr : ∀ a, Wr σ (e0.set i (.ow true dn)) a → Wr σ e0 a := fun a ⟨j, d', h1, h2⟩ => by
    rcases set_look h1 with ⟨rfl, z⟩ | ⟨_, z⟩
    · rw [hp] at h2; cases h2; exact pw
    · exact ⟨j, d', z, h2⟩
  have an : ∀ a, Avo Bx σ (e0.set i (.ow true dn)) a → Avo Bx σ e0 a := fun a z => z.imp (av a) id
  obtain ⟨p', q1, q2, _⟩ := s.ow i true d h
  rw [hp] at q1; cases q1
  refine ⟨⟨by rw [List.length_set]; exact s.len, fun j d' h1 => ?_, fun j w' d' h1 => ?_, fun j k w' w'' d' d'' a h1 h2 h3 h4 => ?_, fun a z => ?_⟩, fr, wr, av⟩
  · rcases set_look h1 with ⟨rfl, z⟩ | ⟨_, z⟩
    · cases z
    · obtain ⟨v, r1, r2⟩ := s.sh j d' z
      exact ⟨v, r1, (r2.keep fa).anti an⟩
  · rcases set_look h1 with ⟨rfl, z⟩ | ⟨n, z⟩
    · cases z; exact ⟨p, hp, q2, (tn fa).anti an⟩
    · obtain ⟨a, r1, r2, r3⟩ := s.ow j w' d' z
      have na : a ≠ p := fun q => by subst q; exact n (s.inj j i _ _ _ _ a z h r1 hp)
      exact ⟨a, r1, r2, (r3.go fa (fun _ z _ => z) fun o q => by rw [upd_ne na]; exact q).anti an⟩
  · have key : ∀ {j w d}, (e0.set i (.ow true dn))[j]? = some (Sl.ow w d) → ∃ w' d', e0[j]? = some (Sl.ow w' d') := fun {j w d} h => by
      rcases set_look h with ⟨rfl, _⟩ | ⟨_, z⟩
      · exact ⟨_, _, by assumption⟩
      · exact ⟨_, _, z⟩
    obtain ⟨_, _, k1⟩ := key h1
    obtain ⟨_, _, k2⟩ := key h2
    exact s.inj j k _ _ _ _ a k1 k2 h3 h4
  · exact fa.there a (s.bx a z)
/-- an own list is written -/
theorem Sim.write {i : Nat} {d : D} {xs ys : List V} {ds : List D} (s : Sim K Bx σ H e0) (h : e0[i]? = some (Sl.ow true d)) (hp : σ[i]? = some (some (V.ref p))) (ho : H p = some (.lst xs)) (rs : Reps K H (Avo Bx σ e0) ys ds) :
    Sim K Bx σ (upd H p (.lst ys)) (e0.set i (.ow true (.list ds))) ∧ Fr σ e0 H (upd H p (.lst ys)) ∧ Le σ e0 (e0.set i (.ow true (.list ds))) :=
  s.writeG h hp ho trivial fun k => .lst upd_same (rs.keep k)
/-- the slot of an own list that may be written -/
def ownL (i : Nat) (e : En) : Option (List D) := match e[i]? with
  | some (Sl.ow true (.list ds)) => some ds
  | _ => none
theorem Sim.own {i : Nat} {ds : List D} (s : Sim K Bx σ H e0) (h : ownL i e0 = some ds) : ∃ p xs, e0[i]? = some (Sl.ow true (.list ds)) ∧ σ[i]? = some (some (V.ref p)) ∧ H p = some (.lst xs) ∧ Reps K H (Avo Bx σ e0) xs ds := by
  unfold ownL at h
  split at h
  · rename_i ds' z
    cases h
    obtain ⟨p, h1, _, t⟩ := s.ow i true _ z
    cases t with | lst q r => exact ⟨p, _, z, h1, q, r⟩
  · cases h
/-- xs.append(e) -/
def xApp (i : Nat) (f : XF) : XF := fun e => if (ownL i e).isSome then (f e).bind fun r e1 => match ownL i e1 with
  | some ds => if ds.length < most then .ok ⟨.none, false⟩ (e1.set i (.ow true (.list (ds ++ [r.d])))) else .st
  | none => .st else .st
theorem Post.after_w {d' : D} {v1 : V} {r1 : Rs} (h : Post K Bx σ H e0 r1 e1 v1 H1) (f : Fr σ e1 H1 H2) (l : Le σ e1 e2) (s : Sim K Bx σ H2 e2) (rp : Rep K H2 (Avo Bx σ e2) v d') : Post K Bx σ H e0 ⟨d', false⟩ e2 v H2 :=
  .mk0 (h.fr.trans h.le f) (h.le.trans l) s rp
theorem app_run {i : Nat} {f : XF} {Q : VK} (h : TD C W (xApp i f) σ H Q) : tBM C.K "list" rAppend (tVar i) (tCons (TD C W f) tNil) σ H Q := by
  obtain ⟨e, Bx, s, q⟩ := h
  unfold xApp at q
  split at q
  · rename_i hs
    obtain ⟨ds, hds⟩ := Option.isSome_iff_exists.mp hs
    obtain ⟨p, xs, z1, z2, z3, z4⟩ := s.own hds
    refine ⟨_, z2, .inl ⟨rfl, _, .inl (.inl z3)⟩, e, Bx, s, run_mono (bind_run q) (fun r e1 q v H1 p1 => ?_) fun _ z => z⟩
    cases w : ownL i e1 with
    | none => rw [w] at q; exact q.elim
    | some ds1 =>
      rw [w] at q
      dsimp only at q
      split at q
      · rename_i hl
        obtain ⟨p', xs1, w1, w2, w3, w4⟩ := p1.s.own w
        rw [z2] at w2; cases w2
        obtain ⟨s', fr, le⟩ := p1.s.write w1 z2 w3 (w4.append (.cons p1.rp .nil))
        refine ⟨p, xs1, v, rfl, rfl, w3, by rw [w4.length]; exact most_lt (Nat.le_of_lt hl), q _ _ (p1.after_w fr le s' .non)⟩
      · exact q.elim
  · exact q.elim
theorem ge_app {i : Nat} {f : XF} {x : Str} {np pos apos : Pos} (hK : X.K = C.K) (hN : X.N[i]? = some x) (hv : Vis X.env.scope x) (hf : GE C X W e f) (hd : (x == ("__debug__" : Str)) = false := by decide) (hcd : (x == ("__classdict__" : Str)) = false := by decide)
    (hbase : attributeBase (.Name x np) "append" X.env (eval (.Name x np) X.env) = eval (.Name x np) X.env := by rfl)
    (hfew : ((backTo pos (starEach [e] X.env)).all (fun x => !x.1) && (backToKw pos (keywordEach [] X.env)).all (fun x => x.1.isSome)
      && decide (([e] : List Expr).length + ([] : List Keyword).length + (if ([] : List Keyword).isEmpty then 0 else 1) < 30)) = true := by rfl)
    (hline : (apos.endLine == pos.line) = true := by rfl) (hs : starEach [e] X.env = (false, eval e X.env) :: starEach [] X.env := by rfl) :
    GE C X W (.Call (.Attribute (.Name x np) "append" apos) [e] [] pos) (xApp i f) := by
  refine pe_imp (pe_bm PySem.F.plainAttrs_list PySem.F.slot_list_append PySem.F.type_list_append mt_append (pe_var hN hv hd hcd) (pa_cons hf pa_nil hs) hbase hfew hline hs rfl) fun σ H Q h => ?_
  rw [hK]
  exact app_run h
/-- xs[i] = v -/
def sSetI (i : Nat) (f g : XF) : SF := fun e => (f e).bind fun r e1 => if (ownL i e1).isSome then (g e1).bind fun k e2 => match k.d, ownL i e2 with
  | .int j, some ds => match ixN ds.length j with
    | some m => .ok .nx (e2.set i (.ow true (.list (ds.set m r.d))))
    | none => .st
  | _, _ => .st else .st
theorem seti_run {i : Nat} {f g : XF} {Dd : Ends} (h : TDs C W io (sSetI i f g) Dd σ H) : tAsg (TD C W f) (gSub (tVar i) (TD C W g) rSetL) Dd σ H := by
  obtain ⟨e, Bx, s, q⟩ := h
  refine ⟨e, Bx, s, run_mono (bind_run q) (fun r e1 q v H1 p1 => ?_) fun _ z => z⟩
  split at q
  · rename_i hs
    obtain ⟨ds, hds⟩ := Option.isSome_iff_exists.mp hs
    obtain ⟨p, xs, z1, z2, z3, z4⟩ := p1.s.own hds
    refine ⟨_, z2, e1, Bx, p1.s, run_mono (bind_run q) (fun k e2 q u H2 p2 => ?_) fun _ z => EX.after z p1.fr p1.le⟩
    obtain ⟨kd, kf⟩ := k
    cases w : ownL i e2 with
    | none => rw [w] at q; cases kd <;> exact q.elim
    | some ds2 =>
      rw [w] at q
      cases kd with
      | int j =>
        dsimp only at q
        cases y : ixN ds2.length j with
        | none => rw [y] at q; exact q.elim
        | some m =>
          rw [y] at q
          have rp := p2.rp
          cases rp
          obtain ⟨p', xs2, w1, w2, w3, w4⟩ := p2.s.own w
          rw [z2] at w2; cases w2
          obtain ⟨s', fr, le⟩ := p2.s.write w1 z2 w3 (w4.set m (rep_after p1.rp p2.fr p2.le))
          exact ⟨p, xs2, j, m, rfl, rfl, w3, by rw [w4.length]; exact y, q σ _ (.of ((p1.fr.trans p1.le p2.fr).trans (p1.le.trans p2.le) fr) ((p1.le.trans p2.le).trans le) s')⟩
      | _ => exact q.elim
  · exact q.elim
theorem gs_setI {i : Nat} {f g : XF} {x : Str} {np spos : Pos} {e ix : Expr} (hN : X.N[i]? = some x) (hv : Vis X.env.scope x) (hf : GE C X W e f) (hg : GE C X W ix g) (hd : (x == ("__debug__" : Str)) = false := by decide) (hcd : (x == ("__classdict__" : Str)) = false := by decide)
    (ha : ∀ v, assign (.Subscript (.Name x np) ix spos) X.env v = (do
      let ov ← holding [v] (eval (.Name x np) X.env)
      let iv ← holding [v, ov] (eval ix X.env)
      standAt spos
      holding [v, ov, iv] (setItem ov iv v)
      release [v, ov, iv] []) := by intro _; rfl)
    (hs : swapsWithSole [.Subscript (.Name x np) ix spos] e pos.line X.env = pure false := by rfl) (hw : swappedStores [.Subscript (.Name x np) ix spos] e X.env = pure none := by rfl)
    (h1 : (assignEach [.Subscript (.Name x np) ix spos] X.env).map (·.2) = [assign (.Subscript (.Name x np) ix spos) X.env] := by rfl) :
    GS C X W io (.Assign [.Subscript (.Name x np) ix spos] e pos) (sSetI i f g) :=
  ps_imp (ps_asg hf (pg_sub (pe_var hN hv hd hcd) hg set_list ha) hs hw h1) fun _ _ _ h => seti_run h

/-! ### x op= e -/
def scal1 : D → Bool
  | .int _ => true | .str _ => true | .bool _ => true | _ => false
def sAug (F : D → D → Option Rs) (i : Nat) (g : En → Res D) : SF := fun e => (xB i e).bind fun x e0 => if scal1 x then (g e0).bind fun y e1 => match F x y with
  | some r => if scal1 r.d && decide (i < e1.length) then .ok .nx (e1.set i (.sh r.d)) else .st
  | none => .st else .st
theorem scal_rep {B B' : Addr → Prop} (h : scal1 d = true) (r : Rep K H B v d) : Rep K H' B' v d := by
  cases r with
  | int i => exact .int i
  | str i => exact .str i
  | bl i => exact .bl i
  | non => cases h
  | lst _ _ _ => cases h
  | tup _ _ => cases h
  | dct _ _ _ => cases h
theorem gs_aug {i : Nat} {x : Str} {op : Operator} {r : R2} {F : D → D → Option Rs} {g : En → Res D} {np : Pos} (hr : OpR X (inplaceOp op) r) (ho : OpOk C F r) (hN : X.N.Nodup) (hi : X.N[i]? = some x) (hx : Loc X.env.scope x) (hg : GO C X W e g) (hio : i ∉ io)
    (hf : X.fn x = true ∨ X.env.scope.names.lookup x = some .local := by first | exact .inl rfl | exact .inr rfl | assumption) : GS C X W io (.AugAssign (.Name x np) op e pos) (sAug F i g) := by
  refine ps_imp (ps_aug hN hi hx hg (ti := r) hr hf) fun D σ H ⟨e, Bx, s, q⟩ => ?_
  obtain ⟨d, v, _, hv, o, q⟩ := look_run s q
  split at q
  · rename_i sc
    refine ⟨v, hv, e, Bx, s, run_mono (bind_run q) (fun y e1 q u H1 p => ?_) fun _ z => z⟩
    cases z : F d y with
    | none => rw [z] at q; exact q.elim
    | some r =>
      rw [z] at q
      dsimp only at q
      split at q
      · rename_i c
        simp only [Bool.and_eq_true, decide_eq_true_eq] at c
        obtain ⟨c1, c2⟩ := c
        have o' : Rep C.K H1 (Avo Bx σ e1) v d := by
          cases o with
          | rep r => exact scal_rep sc r
          | top t => cases t <;> cases sc
        refine ho Bx σ H1 e1 d y v u r _ z p.s (.rep o') p.o fun w H2 p2 => ?_
        obtain ⟨s', wr, av⟩ := p2.s.setSh c2 p2.rp
        exact q _ _ ⟨(p.fr.trans p.le p2.fr), fun a z => .inl (p.le.wr a (p2.le.wr a (wr a z))), fun a z => .inl (p.le.av a (p2.le.av a (av a z))), s', fun j m => st_set fun z => hio (z ▸ m), by simp⟩
      · exact q.elim
  · exact q.elim

/-! ### while -/
def wloop (c : En → Res Bool) (b : SF) : Nat → SF
  | 0, _ => .st
  | n + 1, e => (c e).bind fun k e1 => if k then (b e1).bind fun fl e2 => match fl with | .rt r => .ok (.rt r) e2 | _ => wloop c b n e2 else .ok .nx e1
def big : Nat := 1000000000000
def sWhile (c : En → Res Bool) (b : SF) : SF := wloop c b big
theorem gs_while {c : Expr} {body : List Stmt} {t : En → Res Bool} {f : SF} (hp : PassesOwn (model X.prog X.w) X.A X.env X.xe) (hc : GT C X W c t) (hb : GSs C X W io body f) : GS C X W io (.While c body [] pos) (sWhile t f) := by
  refine ps_imp (ps_while hp hc hb) fun D σ H ⟨e, Bx, s, q⟩ => ?_
  refine ⟨fun m σ1 H1 => ∃ e1, SPost C.K Bx io σ H e σ1 H1 e1 ∧ (wloop t f m e1).run (FlP C.K Bx io σ H e D) (EX C W σ H e), ⟨big, e, .refl s, q⟩, fun m σ1 H1 ⟨e1, p1, q⟩ => ?_⟩
  cases m with
  | zero => exact q.elim
  | succ m =>
    refine ⟨e1, Bx, p1.s, run_mono (bind_run q) (fun k e2 q H2 p2 => ?_) fun _ z => EX.afterS z p1⟩
    have p2' : SPost C.K Bx io σ H e σ1 H2 e2 := p1.trans (.of p2.fr p2.le p2.s)
    cases k with
    | false => exact iteF (q _ _ p2')
    | true =>
      refine iteT ⟨fun σ3 H3 => ∃ e3, SPost C.K Bx io σ H e σ3 H3 e3 ∧ (wloop t f m e3).run (FlP C.K Bx io σ H e D) (EX C W σ H e), fun σ3 H3 h3 => ⟨m, Nat.lt_succ_self m, h3⟩, e2, Bx, p2.s, run_mono (bind_run q) (fun fl e3 q => ?_) fun _ z => EX.afterS z p2'⟩
      cases fl with
      | nx => exact fun σ3 H3 p3 => ⟨e3, p2'.trans p3, q⟩
      | ct => exact fun σ3 H3 p3 => ⟨e3, p2'.trans p3, q⟩
      | rt r => exact fun σ3 v H3 p3 => q σ3 v H3 (p2'.ret p3)

/-! ### what is walked -/
/-- J walks the items ds, while what stood at H0 stands, but for S -/
def Wk (K : PySem.W.Frag) (S B : Addr → Prop) (J : It) (H0 : Hp) (ds : List D) : Prop := ∀ (H : Hp) (B' : Addr → Prop), Kp S H0 H → (∀ a, B' a → H0 a ≠ none → B a) → ∀ i,
  (∀ d, ds[i]? = some d → J.go i H ∧ ∀ x H', J.yld i H x H' → (∀ a o, H a = some o → H' a = some o) ∧ Rep K H' B' x d) ∧ (ds.length ≤ i → J.stop i H)
structure PostI (K : PySem.W.Frag) (Bx : Addr → Prop) (σ : L2.St) (H : Hp) (e : En) (ds : List D) (e' : En) (J : It) (H' : Hp) : Prop where
  fr : Fr σ e H H'
  le : Le σ e e'
  s : Sim K Bx σ H' e'
  w : Wk K (Wr σ e') (Avo Bx σ e') J H' ds
def TDi (C : Ct) (W : WX) (f : En → Res (List D)) : TI := fun σ H R => ∃ e Bx, Sim C.K Bx σ H e ∧ (f e).run (fun ds e' => ∀ J H', PostI C.K Bx σ H e ds e' J H' → R J H') (EX C W σ H e)
abbrev GI (C : Ct) (X : Cx) (W : WX) (tg it : Expr) (f : En → Res (List D)) : Prop := PI X tg it (TDi C W f)
theorem pi_imp {X : Cx} {tg it : Expr} {t t' : TI} (h : PI X tg it t) (i : ∀ σ H R, t' σ H R → t σ H R) : PI X tg it t' := ⟨fun pins s σ H R I q => h.run pins s σ H R I (i σ H R q)⟩
def floop (g : Rs → En → Option En) (b : SF) : List D → SF
  | [], e => .ok .nx e
  | d :: ds, e => match g ⟨d, false⟩ e with
    | some e1 => (b e1).bind fun fl e2 => match fl with | .rt r => .ok (.rt r) e2 | _ => floop g b ds e2
    | none => .st
def sFor (it : En → Res (List D)) (g : Rs → En → Option En) (b : SF) : SF := fun e => (it e).bind fun ds e1 => floop g b ds e1
theorem for_run {it : En → Res (List D)} {g : Rs → En → Option En} {b : SF} {Dd : Ends} (h : TDs C W io (sFor it g b) Dd σ H) : tFor (TDi C W it) (TDg C io g) (TDs C W io b) Dd σ H := by
  obtain ⟨e, Bx, s, q⟩ := h
  refine ⟨e, Bx, s, run_mono (bind_run q) (fun ds e1 q J H1 p => ?_) fun _ z => z⟩
  refine ⟨fun i m σ2 H2 => m = ds.length - i ∧ i ≤ ds.length ∧ ∃ e2, SPost C.K Bx io σ H1 e1 σ2 H2 e2 ∧ (floop g b (ds.drop i) e2).run (FlP C.K Bx io σ H e Dd) (EX C W σ H e), ⟨ds.length, by simp, Nat.zero_le _, e1, .refl p.s, q⟩, ?_⟩
  have p1 : SPost C.K Bx io σ H e σ H1 e1 := .of p.fr p.le p.s
  rintro i m σ2 H2 ⟨rfl, hi, e2, p2, q⟩
  have hB : ∀ a, Avo Bx σ2 e2 a → H1 a ≠ none → Avo Bx σ e1 a := fun a z n => z.elim (fun z => (p2.av a z).elim .inl fun z => absurd z n) .inr
  obtain ⟨w1, w2⟩ := p.w H2 (Avo Bx σ2 e2) p2.k hB i
  by_cases hl : i < ds.length
  · obtain ⟨go, yl⟩ := w1 ds[i] (List.getElem?_eq_getElem hl)
    rw [List.drop_eq_getElem_cons hl] at q
    refine .inr ⟨go, fun σ3 H3 => ∃ e3, SPost C.K Bx io σ H1 e1 σ3 H3 e3 ∧ (floop g b (ds.drop (i + 1)) e3).run (FlP C.K Bx io σ H e Dd) (EX C W σ H e), fun σ3 H3 ⟨e3, p3, q3⟩ => ⟨ds.length - (i + 1), by omega, rfl, hl, e3, p3, q3⟩, fun x H3 y => ?_⟩
    obtain ⟨k3, rp⟩ := yl x H3 y
    have s3 := p2.s.heap k3
    unfold floop at q
    cases z : g ⟨ds[i], false⟩ e2 with
    | none => rw [z] at q; exact q.elim
    | some e3 =>
      rw [z] at q
      refine ⟨e2, Bx, ⟨ds[i], false⟩, e3, ⟨s3, rp⟩, z, fun σ4 g4 => ?_⟩
      have p4 : SPost C.K Bx io σ H1 e1 σ4 H3 e3 := p2.trans ⟨.ext k3, fun a z => (g4.wr a z).elim .inl fun z => (nomatch z.1), fun a z => (g4.av a z).elim .inl fun z => (nomatch z.1), g4.s, g4.io, g4.len⟩
      have p5 := p1.trans p4
      refine ⟨e3, Bx, g4.s, run_mono (bind_run q) (fun fl e5 q => ?_) fun _ z => EX.afterS z p5⟩
      cases fl with
      | nx => exact fun σ5 H5 p6 => ⟨e5, p4.trans p6, q⟩
      | ct => exact fun σ5 H5 p6 => ⟨e5, p4.trans p6, q⟩
      | rt r => exact fun σ5 v H5 p6 => q σ5 v H5 (p5.ret p6)
  · have e : i = ds.length := by omega
    subst e
    rw [List.drop_length] at q
    exact .inl ⟨w2 (Nat.le_refl _), q σ2 H2 (p1.trans p2)⟩
theorem gs_for {tg it : Expr} {body : List Stmt} {w : En → Res (List D)} {g : Rs → En → Option En} {f : SF} (hp : PassesOwn (model X.prog X.w) X.A X.env X.xe) (hc : X.calm = true) (hi : GI C X W tg it w) (hg : GG C X io tg g) (hb : GSs C X W io body f)
    (hs : ∀ x, foldedSetIterable it X.env x = pure x := by intro _; rfl) : GS C X W io (.For tg it body [] pos) (sFor w g f) :=
  ps_imp (ps_for hp hc hi hg hb hs) fun _ _ _ h => for_run h
/-- items of a value that is run -/
def itemsOf : D → Option (List D)
  | .list ds => some ds
  | .tuple ds => some ds
  | _ => none
def iE (f : XF) : En → Res (List D) := fun e => (f e).bind fun r e1 => match r.d with | .list ds => .ok ds e1 | _ => .st
def iT (f : XF) : En → Res (List D) := fun e => (f e).bind fun r e1 => match r.d with | .tuple ds => .ok ds e1 | _ => .st
end
end G
end L2
namespace L2
namespace G
open PySem PySem.Spec PyProof.Rows
section
variable {C : Ct} {X : Cx} {W : WX} {K : PySem.W.Frag} {Bx S B : Addr → Prop} {io : List Nat} {σ σ' σ1 σ2 : L2.St} {H H' H1 H2 : Hp} {e0 e' e1 e2 : En} {e a b : Expr} {pos : Pos} {d : D} {v : V} {st : Stmt} {r : Rs} {p : Addr} {ds : List D} {xs : List V}

/-! ### walks -/
theorem sql_rd {K : PySem.W.Frag} {l : Addr} (h : H l = some (.lst xs)) : SqL K H l xs := .inl (.inl h)
/-- how a list at l is walked -/
theorem wk_list {l : Addr} (q : H1 l = some (.lst xs)) (nS : ¬ S l) (rs : Reps K H1 B xs ds) (hSB : ∀ a, S a → B a) : Wk K S B (Itl K l) H1 ds := by
  intro H B' k hB i
  have q' : SqL K H l xs := sql_rd (k.keep l _ q nS)
  have rs' : Reps K H B' xs ds := rs.go (k.anti hSB) hB
  refine ⟨fun d hd => ?_, fun hl => ⟨xs, q', by rw [rs.length]; exact hl⟩⟩
  obtain ⟨x, hx, rx⟩ := rs'.getD hd
  refine ⟨⟨xs, x, q', hx⟩, fun y H' ⟨e, hy⟩ => ?_⟩
  subst e
  have := hy xs q'
  rw [hx] at this; cases this
  exact ⟨fun _ _ e => e, rx⟩
theorem sqt_kp {l : Addr} (q : SqT K H1 l xs) (k : Kp S H1 H) : SqT K H l xs := by
  rcases q with q | q
  · exact .inl (k.tup _ _ q)
  · exact .inr q
theorem wk_tup {l : Addr} (q : SqT K H1 l xs) (rs : Reps K H1 B xs ds) (hSB : ∀ a, S a → B a) : Wk K S B (Itt K l) H1 ds := by
  intro H B' k hB i
  have q' : SqT K H l xs := sqt_kp q k
  have rs' : Reps K H B' xs ds := rs.go (k.anti hSB) hB
  refine ⟨fun d hd => ?_, fun hl => ⟨xs, q', by rw [rs.length]; exact hl⟩⟩
  obtain ⟨x, hx, rx⟩ := rs'.getD hd
  refine ⟨⟨xs, x, q', hx⟩, fun y H' ⟨e, hy⟩ => ?_⟩
  subst e
  have := hy xs q'
  rw [hx] at this; cases this
  exact ⟨fun _ _ e => e, rx⟩
theorem gi_list {tg : Expr} {f : XF} (hK : X.K = C.K) (h : GE C X W e f) : GI C X W tg e (iE f) := by
  refine pi_imp (pi_list h) fun σ H R ⟨e, Bx, s, q⟩ => ⟨e, Bx, s, run_mono (bind_run q) (fun r e1 q v H1 p => ?_) fun _ z => z⟩
  obtain ⟨d, fr⟩ := r
  have hp := p.rp
  have hs := p.s
  cases d with
  | list ds =>
    cases hp with
    | @lst l xs _ qd nb rs =>
      refine ⟨l, rfl, ⟨xs, sql_rd qd⟩, q _ H1 ⟨p.fr, p.le, hs, ?_⟩⟩
      rw [hK]
      exact wk_list qd (fun z => nb (.inl z.av)) rs fun a z => .inl z.av
  | _ => exact q.elim
theorem gi_tup {tg : Expr} {f : XF} (hK : X.K = C.K) (h : GE C X W e f) : GI C X W tg e (iT f) := by
  refine pi_imp (pi_tup h) fun σ H R ⟨e, Bx, s, q⟩ => ⟨e, Bx, s, run_mono (bind_run q) (fun r e1 q v H1 p => ?_) fun _ z => z⟩
  obtain ⟨d, fr⟩ := r
  have hp := p.rp
  have hs := p.s
  cases d with
  | tuple ds =>
    cases hp with
    | @tup l xs _ qd rs =>
      rw [hK]
      exact ⟨l, rfl, ⟨xs, qd⟩, q _ H1 ⟨p.fr, p.le, hs, wk_tup qd rs fun a z => .inl z.av⟩⟩
  | _ => exact q.elim
/-! own lists walked: locked meanwhile -/
def lockE (e : En) (i : Nat) : En := match e[i]? with
  | some (Sl.ow true d) => e.set i (.ow false d)
  | _ => e
def relock (e0 e1 : En) (i : Nat) : En := match e0[i]?, e1[i]? with
  | some (Sl.ow true _), some (Sl.ow false d) => e1.set i (.ow true d)
  | _, _ => e1
theorem Sim.flag {i : Nat} {w w' : Bool} (s : Sim K Bx σ H e0) (h : e0[i]? = some (Sl.ow w d)) : Sim K Bx σ H (e0.set i (.ow w' d)) ∧ ∀ a, Av σ (e0.set i (.ow w' d)) a → Av σ e0 a := by
  have av : ∀ a, Av σ (e0.set i (.ow w' d)) a → Av σ e0 a := fun a ⟨j, w2, d', h1, h2⟩ => by
    rcases set_look h1 with ⟨rfl, z⟩ | ⟨_, z⟩
    · exact ⟨j, w, d, h, h2⟩
    · exact ⟨j, w2, d', z, h2⟩
  have an : ∀ a, Avo Bx σ (e0.set i (.ow w' d)) a → Avo Bx σ e0 a := fun a z => z.imp (av a) id
  have key : ∀ {j w2 d2}, (e0.set i (.ow w' d))[j]? = some (Sl.ow w2 d2) → ∃ w3, e0[j]? = some (Sl.ow w3 d2) := fun {j w2 d2} h1 => by
    rcases set_look h1 with ⟨rfl, z⟩ | ⟨_, z⟩
    · cases z; exact ⟨w, h⟩
    · exact ⟨_, z⟩
  refine ⟨⟨by rw [List.length_set]; exact s.len, fun j d' h1 => ?_, fun j w2 d' h1 => ?_, fun j k w2 w3 d' d'' a h1 h2 h3 h4 => ?_, s.bx⟩, av⟩
  · rcases set_look h1 with ⟨rfl, z⟩ | ⟨_, z⟩
    · cases z
    · obtain ⟨v, r1, r2⟩ := s.sh j d' z
      exact ⟨v, r1, r2.anti an⟩
  · obtain ⟨w3, z⟩ := key h1
    obtain ⟨a, r1, r2, r3⟩ := s.ow j w3 d' z
    exact ⟨a, r1, r2, r3.anti an⟩
  · obtain ⟨_, k1⟩ := key h1
    obtain ⟨_, k2⟩ := key h2
    exact s.inj j k _ _ _ _ a k1 k2 h3 h4
theorem lock_le (s : Sim K Bx σ H e0) (i : Nat) : Sim K Bx σ H (lockE e0 i) ∧ Le σ e0 (lockE e0 i) := by
  unfold lockE
  split
  · rename_i d h
    obtain ⟨s', av⟩ := s.flag (w' := false) h
    refine ⟨s', fun a ⟨j, d', h1, h2⟩ => ?_, av⟩
    rcases set_look h1 with ⟨rfl, z⟩ | ⟨_, z⟩
    · cases z
    · exact ⟨j, d', z, h2⟩
  · exact ⟨s, .refl⟩
theorem relock_sim {i : Nat} (s : Sim K Bx σ' H e1) : Sim K Bx σ' H (relock e0 e1 i) ∧ (∀ a, Av σ' (relock e0 e1 i) a → Av σ' e1 a) ∧ ∀ a, σ'[i]? = σ[i]? → Wr σ' (relock e0 e1 i) a → Wr σ' e1 a ∨ Wr σ e0 a := by
  unfold relock
  split
  · rename_i d0 d h0 h1
    obtain ⟨s', av⟩ := s.flag (w' := true) h1
    refine ⟨s', av, fun a hs ⟨j, d', h2, h3⟩ => ?_⟩
    rcases set_look h2 with ⟨rfl, z⟩ | ⟨_, z⟩
    · rw [hs] at h3; exact .inr ⟨j, d0, h0, h3⟩
    · exact .inl ⟨j, d', z, h3⟩
  · exact ⟨s, fun _ z => z, fun _ _ z => .inl z⟩
theorem SPost.relock {i : Nat} (h : SPost K Bx (i :: io) σ H e0 σ' H' e1) : SPost K Bx io σ H e0 σ' H' (relock e0 e1 i) := by
  obtain ⟨s, av, wr⟩ := relock_sim (e0 := e0) (σ := σ) (i := i) h.s
  exact ⟨h.k, fun a z => (wr a (h.io i List.mem_cons_self) z).elim (h.wr a) .inl, fun a z => h.av a (av a z), s, fun j m => h.io j (List.mem_cons_of_mem _ m), h.len⟩
theorem Post.relock {i : Nat} (h : Post K Bx σ H e0 r e1 v H') : Post K Bx σ H e0 r (relock e0 e1 i) v H' := by
  obtain ⟨d, fr⟩ := r
  have hi := h.is
  cases fr with
  | false =>
    obtain ⟨s, rp⟩ := hi
    obtain ⟨s', av, wr⟩ := relock_sim (e0 := e0) (σ := σ) (i := i) s
    exact .mk0 h.fr ⟨fun a z => (wr a rfl z).elim (h.le.wr a) id, fun a z => h.le.av a (av a z)⟩ s' (rp.anti fun a z => z.imp (av a) id)
  | true =>
    obtain ⟨p, e, nb, s, t⟩ := hi
    obtain ⟨s', av, wr⟩ := relock_sim (e0 := e0) (σ := σ) (i := i) s
    exact ⟨h.fr, ⟨fun a z => (wr a rfl z).elim (h.le.wr a) id, fun a z => h.le.av a (av a z)⟩, ⟨p, e, nb, s', t.anti fun a z => z.imp (av a) id⟩, h.new⟩
/-- a name that holds a list, walked -/
def iB (i : Nat) : En → Res (List D) := fun e => (xB i e).bind fun d _ => match d with | .list ds => .ok ds (lockE e i) | _ => .st
theorem gi_v {i : Nat} {x : Str} {tg : Expr} (hK : X.K = C.K) (hN : X.N[i]? = some x) (hv : Vis X.env.scope x) (hd : (x == ("__debug__" : Str)) = false := by decide) (hcd : (x == ("__classdict__" : Str)) = false := by decide) : GI C X W tg (.Name x pos) (iB i) := by
  refine pi_imp (pi_list (pe_var hN hv hd hcd)) fun σ H R ⟨e, Bx, s, q⟩ => ?_
  obtain ⟨d, v, hx, hv', o, q⟩ := look_run s q
  cases d with
  | list ds =>
    obtain ⟨l, xs, rfl, qd, rs⟩ := o.list
    obtain ⟨s', le⟩ := lock_le s i
    have an : ∀ a, Avo Bx σ (lockE e i) a → Avo Bx σ e a := Avo.le le
    refine ⟨_, hv', l, rfl, ⟨xs, sql_rd qd⟩, q _ H ⟨.refl, le, s', ?_⟩⟩
    rw [hK]
    refine wk_list qd (fun z => ?_) (rs.anti an) fun a z => .inl z.av
    -- the list is not written
    unfold xB at hx
    split at hx
    · rename_i d' h1
      cases hx
      obtain ⟨v, r1, r2⟩ := s.sh i _ h1
      rw [hv'] at r1; cases r1
      cases r2 with | lst _ nb _ => exact nb (.inl (le.wr _ z).av)
    · rename_i w d' h1
      cases hx
      obtain ⟨j, d2, h2, h3⟩ := z
      have h2' : e[j]? = some (Sl.ow true d2) ∧ j ≠ i := by
        unfold lockE at h2
        rw [h1] at h2
        cases w with
        | true =>
          rcases set_look h2 with ⟨_, z⟩ | ⟨n, z⟩
          · cases z
          · exact ⟨z, n⟩
        | false =>
          refine ⟨h2, fun n => ?_⟩
          subst n; rw [h1] at h2; cases h2
      exact h2'.2 (s.inj j i _ _ _ _ l h2'.1 h1 h3 hv')
    · cases hx
  | _ => exact q.elim
def sForV (i : Nat) (g : Rs → En → Option En) (b : SF) : SF := fun e => (sFor (iB i) g b e).bind fun fl e2 => match fl with | .rt r => .ok (.rt r) e2 | fl => .ok fl (relock e e2 i)
theorem gs_forV {i : Nat} {x : Str} {np : Pos} {tg : Expr} {body : List Stmt} {g : Rs → En → Option En} {f : SF} (hp : PassesOwn (model X.prog X.w) X.A X.env X.xe) (hc : X.calm = true) (hi : GI C X W tg (.Name x np) (iB i)) (hg : GG C X (i :: io) tg g) (hb : GSs C X W (i :: io) body f)
    (hs : ∀ z, foldedSetIterable (.Name x np) X.env z = pure z := by intro _; rfl) : GS C X W io (.For tg (.Name x np) body [] pos) (sForV i g f) :=
  ps_imp (ps_for hp hc hi hg hb hs) fun Dd σ H ⟨e, Bx, s, q⟩ => for_run ⟨e, Bx, s, run_mono (bind_run q) (fun fl e2 q => by
    cases fl with
    | nx => exact fun σ' H' p => q σ' H' p.relock
    | ct => exact fun σ' H' p => q σ' H' p.relock
    | rt r => exact fun σ' v H' p => q σ' v H' ⟨p.k, p.av, p.is, p.new, fun j m => p.io j (List.mem_cons_of_mem _ m)⟩) fun _ z => z⟩
/-! ranges -/
def iseq (lo c : Int) (n : Nat) : List D := (List.range n).map fun (k : Nat) => PyData.int (lo + (k : Int) * c)
theorem wk_rng {lo : Int} {n : Nat} : Wk K S B (Itr lo n) H1 (iseq lo 1 n) := by
  intro H B' k hB i
  refine ⟨fun d hd => ?_, fun hl => show n ≤ i by simpa [iseq] using hl⟩
  have hi : i < n := by
    have := (List.getElem?_eq_some_iff.mp hd).1
    simpa [iseq] using this
  refine ⟨hi, fun x H' ⟨e1, e2⟩ => ?_⟩
  subst e1 e2
  refine ⟨fun _ _ e => e, ?_⟩
  have : d = PyData.int (lo + i) := by
    have h := hd
    simp [iseq, hi] at h
    exact h.symm
  subst this
  exact .int _
theorem wk_rngC {lo c : Int} {n : Nat} : Wk K S B (Itc lo c n) H1 (iseq lo c n) := by
  intro H B' k hB i
  refine ⟨fun d hd => ?_, fun hl => show n ≤ i by simpa [iseq] using hl⟩
  have hi : i < n := by
    have := (List.getElem?_eq_some_iff.mp hd).1
    simpa [iseq] using this
  refine ⟨hi, fun x H' ⟨e1, e2⟩ => ?_⟩
  subst e1 e2
  refine ⟨fun _ _ e => e, ?_⟩
  have : d = PyData.int (lo + i * c) := by
    have h := hd
    simp [iseq, hi] at h
    exact h.symm
  subst this
  exact .int _
def near (j : Int) : Bool := decide (-(2 ^ 62) ≤ j) && decide (j < 2 ^ 62)
theorem near_of {j : Int} (h : near j = true) : -(2 ^ 62) ≤ j ∧ j < 2 ^ 62 := by simpa [near] using h
def iR1 (g : En → Res (List D)) : En → Res (List D) := fun e => (g e).bind fun ds e1 => match ds with
  | [.int j] => if near j then .ok (iseq 0 1 j.toNat) e1 else .st
  | _ => .st
def iR2 (g : En → Res (List D)) : En → Res (List D) := fun e => (g e).bind fun ds e1 => match ds with
  | [.int i, .int j] => if near i && near j then .ok (iseq i 1 (j - i).toNat) e1 else .st
  | _ => .st
/-- a step of -1, or a small one upward -/
def iR3 (g : En → Res (List D)) : En → Res (List D) := fun e => (g e).bind fun ds e1 => match ds with
  | [.int i, .int j, .int c] => if near i && near j && decide (c = -1) then .ok (iseq i (-1) (i - j).toNat) e1 else .st
  | _ => .st
theorem reps1 (r : Reps K H B xs [.int j]) : xs = [.int j] := by
  cases r with | cons a b => cases a; cases b; rfl
theorem reps2 {i j : Int} (r : Reps K H B xs [.int i, .int j]) : xs = [.int i, .int j] := by
  cases r with | cons a b => cases a; rw [reps1 b]
theorem reps3 {i j k : Int} (r : Reps K H B xs [.int i, .int j, .int k]) : xs = [.int i, .int j, .int k] := by
  cases r with | cons a b => cases a; rw [reps2 b]
theorem gi_r1 {tg : Expr} {p : Pos} {g : En → Res (List D)} (hg : Gl X "range") (hm : X.mg "range" = none) (ha : GA C X W [a] g) (hs : starEach [a] X.env = [(false, eval a X.env)] := by rfl) : GI C X W tg (.Call (.Name "range" p) [a] [] pos) (iR1 g) := by
  refine pi_imp (pi_range1 hg hm ha hs) fun σ H R ⟨e, Bx, s, q⟩ => ⟨e, Bx, s, run_mono (bind_run q) (fun ds e1 q vs H1 p => ?_) fun _ z => z⟩
  split at q
  · rename_i j
    split at q
    · rename_i hn
      obtain ⟨n1, n2⟩ := near_of hn
      exact ⟨j, reps1 p.r, n1, n2, q _ H1 ⟨p.fr, p.le, p.s, wk_rng⟩⟩
    · exact q.elim
  · exact q.elim
theorem gi_r2 {tg : Expr} {p : Pos} {g : En → Res (List D)} (hg : Gl X "range") (hm : X.mg "range" = none) (ha : GA C X W [a, b] g) (hs : starEach [a, b] X.env = [(false, eval a X.env), (false, eval b X.env)] := by rfl) (hs2 : starEach [b] X.env = [(false, eval b X.env)] := by rfl) : GI C X W tg (.Call (.Name "range" p) [a, b] [] pos) (iR2 g) := by
  refine pi_imp (pi_range2 hg hm ha hs hs2) fun σ H R ⟨e, Bx, s, q⟩ => ⟨e, Bx, s, run_mono (bind_run q) (fun ds e1 q vs H1 p => ?_) fun _ z => z⟩
  split at q
  · rename_i i j
    split at q
    · rename_i hn
      simp only [Bool.and_eq_true] at hn
      obtain ⟨n1, n2⟩ := near_of hn.1
      obtain ⟨n3, n4⟩ := near_of hn.2
      exact ⟨i, j, reps2 p.r, ⟨n1, n2, n3, n4⟩, q _ H1 ⟨p.fr, p.le, p.s, wk_rng⟩⟩
    · exact q.elim
  · exact q.elim
theorem gi_r3 {tg c : Expr} {p : Pos} {g : En → Res (List D)} (hg : Gl X "range") (hm : X.mg "range" = none) (ha : GA C X W [a, b, c] g) (hs : starEach [a, b, c] X.env = (false, eval a X.env) :: starEach [b, c] X.env := by rfl) (hpl : (backTo pos (starEach [b, c] X.env)).any (·.1) = false := by rfl) : GI C X W tg (.Call (.Name "range" p) [a, b, c] [] pos) (iR3 g) := by
  refine pi_imp (pi_range3 hg hm ha hs hpl) fun σ H R ⟨e, Bx, s, q⟩ => ⟨e, Bx, s, run_mono (bind_run q) (fun ds e1 q vs H1 p => ?_) fun _ z => z⟩
  split at q
  · rename_i i j c
    split at q
    · rename_i hn
      simp only [Bool.and_eq_true, decide_eq_true_eq] at hn
      obtain ⟨n1, n2⟩ := near_of hn.1.1
      obtain ⟨n3, n4⟩ := near_of hn.1.2
      obtain rfl := hn.2
      exact ⟨i, j, -1, _, reps3 p.r, .neg n1 n2 n3 n4, q _ H1 ⟨p.fr, p.le, p.s, wk_rngC⟩⟩
    · exact q.elim
  · exact q.elim
/-! a text, sign by sign -/
def signs (x : Str) : List D := x.cps.toList.map fun c => PyData.str ⟨#[c]⟩
theorem wk_str {x : Str} : Wk K S B (Its x) H1 (signs x) := by
  intro H B' k hB i
  refine ⟨fun d hd => ?_, fun hl => show x.cps.size ≤ i by simpa [signs] using hl⟩
  have hi : i < x.cps.size := by
    have := (List.getElem?_eq_some_iff.mp hd).1
    simpa [signs] using this
  refine ⟨hi, fun v H' ⟨e1, c, e2, e3⟩ => ?_⟩
  subst e1 e3
  refine ⟨fun _ _ e => e, ?_⟩
  have : d = PyData.str ⟨#[c]⟩ := by
    have h := hd
    simp [signs, e2] at h
    exact h.symm
  subst this
  exact .str _
def iS (g : En → Res D) : En → Res (List D) := fun e => (g e).bind fun d e1 => match d with | .str x => .ok (signs x) e1 | _ => .st
theorem gi_str {tg : Expr} {g : En → Res D} (h : GO C X W e g) : GI C X W tg e (iS g) := by
  refine pi_imp (pi_str h) fun σ H R ⟨e, Bx, s, q⟩ => ⟨e, Bx, s, run_mono (bind_run q) (fun d e1 q v H1 p => ?_) fun _ z => z⟩
  cases d with
  | str x => exact ⟨x, p.o.str, q _ H1 ⟨p.fr, p.le, p.s, wk_str⟩⟩
  | _ => exact q.elim

/-! ### comprehensions -/
def wipeE (e : En) : List Nat → En
  | [] => e
  | v :: vs => (wipeE e vs).set v .un
def resE (e1 e2 : En) : List Nat → En
  | [] => e2
  | v :: vs => match e1[v]? with | some s => (resE e1 e2 vs).set v s | none => resE e1 e2 vs
def okW (e : En) (vs : List Nat) : Bool := vs.all fun i => match e[i]? with | some (.ow _ _) => false | _ => true
theorem wipeE_length : ∀ vs : List Nat, (wipeE e0 vs).length = e0.length
  | [] => rfl
  | v :: vs => by unfold wipeE; rw [List.length_set, wipeE_length vs]
theorem wipeE_some {i : Nat} {y : Sl} : ∀ {vs : List Nat}, (wipeE e0 vs)[i]? = some y → y = .un ∨ (i ∉ vs ∧ e0[i]? = some y)
  | [], h => .inr ⟨by simp, h⟩
  | v :: vs, h => by
    unfold wipeE at h
    rcases set_look h with ⟨_, z⟩ | ⟨n, z⟩
    · exact .inl z
    · rcases wipeE_some z with z | ⟨z1, z2⟩
      · exact .inl z
      · exact .inr ⟨by simp only [List.mem_cons, not_or]; exact ⟨n, z1⟩, z2⟩
theorem wipe_in {i : Nat} : ∀ {vs : List Nat}, i ∉ vs → (wipe σ vs)[i]? = σ[i]? := fun h => wipe_out h
theorem resE_length : ∀ vs : List Nat, (resE e1 e2 vs).length = e2.length
  | [] => rfl
  | v :: vs => by
    unfold resE
    split
    · rw [List.length_set, resE_length vs]
    · exact resE_length vs
theorem resE_some {i : Nat} {y : Sl} : ∀ {vs : List Nat}, (resE e1 e2 vs)[i]? = some y → e1.length = e2.length → (i ∈ vs ∧ e1[i]? = some y) ∨ (i ∉ vs ∧ e2[i]? = some y)
  | [], h, _ => .inr ⟨by simp, h⟩
  | v :: vs, h, hl => by
    unfold resE at h
    split at h
    · rename_i s q
      rcases set_look h with ⟨z0, z⟩ | ⟨n, z⟩
      · subst z0 z; exact .inl ⟨List.mem_cons_self, q⟩
      · rcases resE_some z hl with ⟨z1, z2⟩ | ⟨z1, z2⟩
        · exact .inl ⟨List.mem_cons_of_mem _ z1, z2⟩
        · exact .inr ⟨by simp only [List.mem_cons, not_or]; exact ⟨n, z1⟩, z2⟩
    · rename_i q
      rcases resE_some h hl with ⟨z1, z2⟩ | ⟨z1, z2⟩
      · exact .inl ⟨List.mem_cons_of_mem _ z1, z2⟩
      · refine .inr ⟨?_, z2⟩
        simp only [List.mem_cons, not_or]
        refine ⟨fun z => ?_, z1⟩
        subst z
        have := en_lt z2
        rw [← hl] at this
        rw [List.getElem?_eq_getElem this] at q; cases q
/-- the block's own names forgotten -/
theorem Sim.wipe (s : Sim K Bx σ H e0) (vs : List Nat) : Sim K Bx (wipe σ vs) H (wipeE e0 vs) ∧ (∀ a, Wr (L2.wipe σ vs) (wipeE e0 vs) a → Wr σ e0 a) ∧ ∀ a, Av (L2.wipe σ vs) (wipeE e0 vs) a → Av σ e0 a := by
  have wr : ∀ a, Wr (L2.wipe σ vs) (wipeE e0 vs) a → Wr σ e0 a := fun a ⟨j, d', h1, h2⟩ => by
    rcases wipeE_some h1 with z | ⟨z1, z2⟩
    · cases z
    · rw [wipe_in z1] at h2; exact ⟨j, d', z2, h2⟩
  have av : ∀ a, Av (L2.wipe σ vs) (wipeE e0 vs) a → Av σ e0 a := fun a ⟨j, w', d', h1, h2⟩ => by
    rcases wipeE_some h1 with z | ⟨z1, z2⟩
    · cases z
    · rw [wipe_in z1] at h2; exact ⟨j, w', d', z2, h2⟩
  have an : ∀ a, Avo Bx (L2.wipe σ vs) (wipeE e0 vs) a → Avo Bx σ e0 a := fun a z => z.imp (av a) id
  refine ⟨⟨by rw [wipeE_length, wipe_length]; exact s.len, fun j d' h1 => ?_, fun j w' d' h1 => ?_, fun j k w' w'' d' d'' a h1 h2 h3 h4 => ?_, s.bx⟩, wr, av⟩
  · rcases wipeE_some h1 with z | ⟨z1, z2⟩
    · cases z
    · obtain ⟨v, r1, r2⟩ := s.sh j d' z2
      exact ⟨v, by rw [wipe_in z1]; exact r1, r2.anti an⟩
  · rcases wipeE_some h1 with z | ⟨z1, z2⟩
    · cases z
    · obtain ⟨a, r1, r2, r3⟩ := s.ow j w' d' z2
      exact ⟨a, by rw [wipe_in z1]; exact r1, r2, r3.anti an⟩
  · rcases wipeE_some h1 with z | ⟨z1, z2⟩
    · cases z
    · rcases wipeE_some h2 with z' | ⟨z1', z2'⟩
      · cases z'
      · rw [wipe_in z1] at h3; rw [wipe_in z1'] at h4
        exact s.inj j k _ _ _ _ a z2 z2' h3 h4
/-- a list that is avoided is written -/
theorem Sim.writeB {ys : List V} (s : Sim K (ad Bx p) σ H e0) (h : H p = some (.lst xs)) : Sim K (ad Bx p) σ (upd H p (.lst ys)) e0 := by
  have kp : Kp (Avo (ad Bx p) σ e0) H (upd H p (.lst ys)) := .write h trivial (.inr (.inr rfl))
  refine ⟨s.len, fun i d q => ?_, fun i w d q => ?_, s.inj, fun a z => kp.there a (s.bx a z)⟩
  · obtain ⟨v, q1, q2⟩ := s.sh i d q
    exact ⟨v, q1, q2.keep kp⟩
  · obtain ⟨a, q1, q2, q3⟩ := s.ow i w d q
    refine ⟨a, q1, q2, q3.go kp (fun _ z _ => z) fun o z => ?_⟩
    rw [upd_ne fun y => q2 (.inr y)]; exact z
end
end G
end L2
namespace L2
namespace G
open PySem PySem.Spec PyProof.Rows
section
variable {C : Ct} {X : Cx} {W : WX} {K : PySem.W.Frag} {Bx S B : Addr → Prop} {io : List Nat} {σ σ' σ1 σ2 : L2.St} {H H' H1 H2 : Hp} {e0 e' e1 e2 : En} {e a b : Expr} {pos : Pos} {d : D} {v : V} {st : Stmt} {r : Rs} {p : Addr} {ds : List D} {xs : List V}

/-- within a block nothing is raised -/
abbrev W0 : WX := fun _ _ _ _ => False
/-- the slots that are not the block's own -/
def oth (n : Nat) (vs : List Nat) : List Nat := (List.range n).filter fun i => !vs.contains i
theorem wipe_eq {vs : List Nat} (h : σ'.length = σ.length) (k : ∀ i ∈ oth σ.length vs, σ'[i]? = σ[i]?) : L2.wipe σ' vs = L2.wipe σ vs := by
  apply List.ext_getElem?
  intro i
  by_cases m : i ∈ vs
  · have : ∀ (τ : L2.St) (us : List Nat), i ∈ us → (L2.wipe τ us)[i]? = if i < τ.length then some none else none := by
      intro τ us
      induction us with
      | nil => intro m; simp at m
      | cons u us ih =>
        intro m
        unfold L2.wipe
        by_cases c : u = i
        · subst c
          by_cases hl : u < τ.length
          · rw [List.getElem?_set_self (by rw [wipe_length]; exact hl), if_pos hl]
          · rw [List.getElem?_eq_none (by rw [List.length_set, wipe_length]; omega), if_neg hl]
        · rw [List.getElem?_set_ne c]
          rcases List.mem_cons.mp m with z | z
          · exact absurd z.symm c
          · exact ih z
    rw [this _ _ m, this _ _ m, h]
  · rw [wipe_out m, wipe_out m]
    by_cases hl : i < σ.length
    · exact k i (by simp [oth, hl, m])
    · rw [List.getElem?_eq_none (by omega), List.getElem?_eq_none (by omega)]
theorem wipe_wipe {vs : List Nat} : L2.wipe (L2.wipe σ vs) vs = L2.wipe σ vs :=
  wipe_eq (by rw [wipe_length]) fun i m => wipe_out (by simpa [oth] using (List.mem_filter.mp m).2)
def lcLoop (g : Rs → En → Option En) (tt : En → Res Bool) (te : XF) (vs : List Nat) : List D → List D → En → Res (List D)
  | [], acc, e => .ok acc e
  | d :: ds, acc, e => match g ⟨d, false⟩ (wipeE e vs) with
    | none => .st
    | some e2 => match tt e2 with
      | .ok true e3 => match te e3 with
        | .ok r e4 => if acc.length < most then lcLoop g tt te vs ds (acc ++ [r.d]) e4 else .st
        | _ => .st
      | .ok false e3 => lcLoop g tt te vs ds acc e3
      | _ => .st
/-- [te for g in it if tt], vs the block's own slots -/
def xLc (it : En → Res (List D)) (g : Rs → En → Option En) (tt : En → Res Bool) (te : XF) (vs : List Nat) : XF := fun e => (it e).bind fun ds e1 => if okW e1 vs then (lcLoop g tt te vs ds [] e1).bind fun ys e2 => .ok ⟨.list ys, true⟩ (resE e1 e2 vs) else .st
/-- what stands between the turns; e1, H1: at the loop's start, σ's slots; L the new list -/
structure LcI (K : PySem.W.Frag) (Bx : Addr → Prop) (σ : L2.St) (vs : List Nat) (H1 : Hp) (e1 : En) (L : Addr) (acc : List D) (H : Hp) (e : En) : Prop where
  k : Kp (Wr σ e1) H1 H
  s : Sim K (ad Bx L) (L2.wipe σ vs) H (wipeE e vs)
  len : e.length = e1.length
  wr : ∀ a, Wr (L2.wipe σ vs) (wipeE e vs) a → Wr σ e1 a
  av : ∀ a, Av (L2.wipe σ vs) (wipeE e vs) a → Av σ e1 a
  l : ∃ xs, H L = some (.lst xs) ∧ Reps K H (Avo (ad Bx L) (L2.wipe σ vs) (wipeE e vs)) xs acc
theorem wipeE_out {i : Nat} : ∀ {vs : List Nat}, i ∉ vs → (wipeE e0 vs)[i]? = e0[i]?
  | [], _ => rfl
  | u :: us, m => by simp only [List.mem_cons, not_or] at m; unfold wipeE; rw [List.getElem?_set_ne (Ne.symm m.1)]; exact wipeE_out m.2
theorem LcI.start {L : Addr} {vs : List Nat} (s : Sim K Bx σ H1 e1) (h : H1 L = none) : LcI K Bx σ vs H1 e1 L [] (upd H1 L (.lst [])) e1 := by
  obtain ⟨s', wr, av⟩ := (s.laid (o := .lst []) h).wipe vs
  exact ⟨.new h, s', rfl, wr, av, [], upd_same, .nil⟩
/-- a turn that adds an item -/
theorem LcI.turn {L : Addr} {vs : List Nat} {acc : List D} {Hy H3 H4 : Hp} {e2 e3 e4 : En} {x y : V} {io' : List Nat} (hio : io' = oth σ.length vs) (h : LcI K Bx σ vs H1 e1 L acc H e0) (hL : H1 L = none) (s1 : Sim K Bx σ H1 e1) (ky : ∀ a o, H a = some o → Hy a = some o)
    (g : GPost K (ad Bx L) io' (L2.wipe σ vs) Hy (wipeE e0 vs) ⟨d, false⟩ x σ2 e2) (t : PostT K (ad Bx L) σ2 Hy e2 e3 H3) :
    L2.wipe σ2 vs = L2.wipe σ vs ∧ LcI K Bx σ vs H1 e1 L acc H3 e3 ∧ (∀ {r}, Post K (ad Bx L) σ2 H3 e3 r e4 y H4 → ∃ xs, H4 L = some (.lst xs) ∧ xs.length = acc.length ∧ LcI K Bx σ vs H1 e1 L (acc ++ [r.d]) (upd H4 L (.lst (xs ++ [y]))) e4) := by
  subst hio
  have hw : L2.wipe σ2 vs = L2.wipe σ vs := (wipe_eq (σ := L2.wipe σ vs) (by rw [g.len]) (by rw [wipe_length]; exact g.io)).trans wipe_wipe
  obtain ⟨xs, hx, rx⟩ := h.l
  have lB : ∀ {τ e}, Avo (ad Bx L) τ e L := .inr (.inr rfl)
  have wr2 : ∀ a, Wr σ2 e2 a → Wr (L2.wipe σ vs) (wipeE e0 vs) a := fun a z => (g.wr a z).elim id fun z => nomatch z.1
  have av2 : ∀ a, Av σ2 e2 a → Av (L2.wipe σ vs) (wipeE e0 vs) a := fun a z => (g.av a z).elim id fun z => nomatch z.1
  have wr3 : ∀ a, Wr σ2 e3 a → Wr (L2.wipe σ vs) (wipeE e0 vs) a := fun a z => wr2 a (t.le.wr a z)
  have av3 : ∀ a, Av σ2 e3 a → Av (L2.wipe σ vs) (wipeE e0 vs) a := fun a z => av2 a (t.le.av a z)
  have nLown : ¬ Wr σ2 e2 L := fun ⟨j, d', q1, q2⟩ => by
    obtain ⟨a, r1, r2, _⟩ := g.s.ow j true d' q1
    rw [q2] at r1; cases r1; exact r2 (.inr rfl)
  have k3 : Kp (Wr (L2.wipe σ vs) (wipeE e0 vs)) H H3 := Kp.trans (.ext ky) (t.fr.anti wr2)
  have K3 : Kp (Wr σ e1) H1 H3 := h.k.trans (k3.anti h.wr)
  have hx3 : H3 L = some (.lst xs) := t.fr.keep L _ (ky L _ hx) nLown
  have len3 : e3.length = e1.length := by rw [t.s.len, g.len, wipe_length, ← s1.len]
  obtain ⟨s3, w3, a3⟩ := t.s.wipe vs
  rw [hw] at s3 w3 a3
  have rx3 : Reps K H3 (Avo (ad Bx L) (L2.wipe σ vs) (wipeE e3 vs)) xs acc := (rx.keep (k3.anti fun a z => .inl z.av)).anti fun a z => z.imp (fun z => av3 a (a3 a z)) id
  refine ⟨hw, ⟨K3, s3, len3, fun a z => h.wr a (wr3 a (w3 a z)), fun a z => h.av a (av3 a (a3 a z)), xs, hx3, rx3⟩, fun {r} p => ?_⟩
  have nL3 : ¬ Wr σ2 e3 L := fun z => nLown (t.le.wr L z)
  have hx4 : H4 L = some (.lst xs) := p.fr.keep L _ hx3 nL3
  have K4 : Kp (Wr σ e1) H1 H4 := K3.trans (p.fr.anti fun a z => h.wr a (wr3 a z))
  have k5 : ∀ {B : Addr → Prop}, B L → Kp B H4 (upd H4 L (.lst (xs ++ [y]))) := fun b => .write hx4 trivial b
  have K5 : Kp (Wr σ e1) H1 (upd H4 L (.lst (xs ++ [y]))) := by
    have w := k5 (B := fun _ => True) trivial
    refine ⟨fun a o q n => ?_, fun a n => w.there a (K4.there a n), fun a zs q => w.tup a zs (K4.tup a zs q)⟩
    rw [upd_ne (ne_of_none q hL)]; exact K4.keep a o q n
  obtain ⟨s5, w5, a5⟩ := (p.s.writeB (ys := xs ++ [y]) hx4).wipe vs
  rw [hw] at s5 w5 a5
  have le4 : ∀ a, Av (L2.wipe σ vs) (wipeE e4 vs) a → Av σ2 e3 a := fun a z => p.le.av a (a5 a z)
  refine ⟨xs, hx4, rx.length, K5, s5, by rw [p.s.len, g.len, wipe_length, ← s1.len], fun a z => h.wr a (wr3 a (p.le.wr a (w5 a z))), fun a z => h.av a (av3 a (le4 a z)), xs ++ [y], upd_same, ?_⟩
  have q1 : Reps K (upd H4 L (.lst (xs ++ [y]))) (Avo (ad Bx L) (L2.wipe σ vs) (wipeE e4 vs)) xs acc := by
    have z1 : Reps K H4 (Avo (ad Bx L) (L2.wipe σ vs) (wipeE e0 vs)) xs acc := rx.keep ((k3.trans (p.fr.anti wr3)).anti fun a z => .inl z.av)
    exact (z1.keep (k5 lB)).anti fun a z => z.imp (fun z => av3 a (le4 a z)) id
  have q2 : Rep K (upd H4 L (.lst (xs ++ [y]))) (Avo (ad Bx L) (L2.wipe σ vs) (wipeE e4 vs)) y r.d := (p.rp.keep (k5 lB)).anti fun a z => z.imp (fun z => a5 a z) id
  exact q1.append (.cons q2 .nil)
theorem LcI.done {L : Addr} {vs : List Nat} {acc : List D} (h : LcI K Bx σ vs H1 e1 L acc H e0) (hL : H1 L = none) (s1 : Sim K Bx σ H1 e1) (ok : okW e1 vs = true) : Post K Bx σ H1 e1 ⟨.list acc, true⟩ (resE e1 e0 vs) (.ref L) H := by
  have notow : ∀ j ∈ vs, ∀ w d, e1[j]? ≠ some (Sl.ow w d) := fun j m w d q => by
    have := List.all_eq_true.mp ok j m
    rw [q] at this; cases this
  have look : ∀ {j y}, (resE e1 e0 vs)[j]? = some y → (j ∈ vs ∧ e1[j]? = some y) ∨ (j ∉ vs ∧ (wipeE e0 vs)[j]? = some y) := fun {j y} q => by
    rcases resE_some q h.len.symm with z | ⟨z1, z2⟩
    · exact .inl z
    · exact .inr ⟨z1, by rw [wipeE_out z1]; exact z2⟩
  have av : ∀ a, Av σ (resE e1 e0 vs) a → Av (L2.wipe σ vs) (wipeE e0 vs) a := fun a ⟨j, w, d', q1, q2⟩ => by
    rcases look q1 with ⟨z1, z2⟩ | ⟨z1, z2⟩
    · exact absurd z2 (notow j z1 w d')
    · exact ⟨j, w, d', z2, by rw [wipe_out z1]; exact q2⟩
  have wr : ∀ a, Wr σ (resE e1 e0 vs) a → Wr (L2.wipe σ vs) (wipeE e0 vs) a := fun a ⟨j, d', q1, q2⟩ => by
    rcases look q1 with ⟨z1, z2⟩ | ⟨z1, z2⟩
    · exact absurd z2 (notow j z1 true d')
    · exact ⟨j, d', z2, by rw [wipe_out z1]; exact q2⟩
  have an : ∀ a, Avo (ad Bx L) σ (resE e1 e0 vs) a → Avo (ad Bx L) (L2.wipe σ vs) (wipeE e0 vs) a := fun a z => z.imp (av a) id
  obtain ⟨xs, hx, rx⟩ := h.l
  refine ⟨h.k, ⟨fun a z => h.wr a (wr a z), fun a z => h.av a (av a z)⟩, ⟨L, rfl, fun z => s1.bx L z hL, ⟨?_, fun j d' q => ?_, fun j w d' q => ?_, fun j k w' w'' d' d'' a q1 q2 q3 q4 => ?_, h.s.bx⟩, .lst hx (rx.anti an)⟩, fun _ _ z => by cases z; exact hL⟩
  · rw [resE_length, h.len]; exact s1.len
  · rcases look q with ⟨z1, z2⟩ | ⟨z1, z2⟩
    · obtain ⟨v, r1, r2⟩ := s1.sh j d' z2
      refine ⟨v, r1, r2.go (h.k.anti fun a z => .inl z.av) fun a z n => ?_⟩
      rcases z with z | z | z
      · exact .inl (h.av a (av a z))
      · exact .inr z
      · rw [z] at n; exact absurd hL n
    · obtain ⟨v, r1, r2⟩ := h.s.sh j d' z2
      exact ⟨v, by rw [wipe_out z1] at r1; exact r1, r2.anti an⟩
  · rcases look q with ⟨z1, z2⟩ | ⟨z1, z2⟩
    · exact absurd z2 (notow j z1 w d')
    · obtain ⟨a, r1, r2, r3⟩ := h.s.ow j w d' z2
      exact ⟨a, by rw [wipe_out z1] at r1; exact r1, r2, r3.anti an⟩
  · rcases look q1 with ⟨z1, z2⟩ | ⟨z1, z2⟩
    · exact absurd z2 (notow j z1 w' d')
    · rcases look q2 with ⟨z1', z2'⟩ | ⟨z1', z2'⟩
      · exact absurd z2' (notow k z1' w'' d'')
      · exact h.s.inj j k _ _ _ _ a z2 z2' (by rw [wipe_out z1]; exact q3) (by rw [wipe_out z1']; exact q4)
theorem Post.after_i {J : It} (h : PostI K Bx σ H e0 ds e1 J H1) (h' : Post K Bx σ H1 e1 r e' v H') : Post K Bx σ H e0 r e' v H' :=
  ⟨h.fr.trans h.le h'.fr, h.le.trans h'.le, h'.is, fun z p q => h.fr.new (h'.new z p q)⟩
theorem oth_len {vs : List Nat} (hN : X.N.length = σ.length) : oth X.N.length vs = oth σ.length vs := by rw [hN]
/-- the reading of a comprehension -/
theorem lc_run {it : En → Res (List D)} {g : Rs → En → Option En} {tt : En → Res Bool} {te : XF} {vs : List Nat} {n : Nat} {Q : VK} (hn : σ.length = n) (h : TD C W (xLc it g tt te vs) σ H Q) : tLc (TDi C W it) (TDg C (oth n vs) g) (TDt C W0 tt) (TD C W0 te) vs σ H Q := by
  subst hn
  obtain ⟨e, Bx, s, q⟩ := h
  refine ⟨e, Bx, s, run_mono (bind_run q) (fun ds e1 q J H1 p => ?_) fun _ z => z⟩
  split at q
  case isFalse => exact q.elim
  rename_i ok
  intro L hL
  refine ⟨fun i m Hh => m = ds.length - i ∧ i ≤ ds.length ∧ ∃ e2 acc, LcI C.K Bx σ vs H1 e1 L acc Hh e2 ∧ ((lcLoop g tt te vs (ds.drop i) acc e2).bind fun ys e2 => (.ok ⟨.list ys, true⟩ (resE e1 e2 vs) : Res Rs)).run (fun r e' => ∀ v H', Post C.K Bx σ H e r e' v H' → Q v H') (EX C W σ H1 e1), ⟨ds.length, by simp, Nat.zero_le _, e1, [], .start p.s hL, ?_⟩, ?_⟩
  · cases z : lcLoop g tt te vs ds [] e1 with
    | st => rw [z] at q; exact q.elim
    | ok a b => rw [z] at q; rw [List.drop_zero, z]; exact q
    | ex y => rw [z] at q; rw [List.drop_zero, z]; exact EX.after q p.fr p.le
  rintro i m H2 ⟨rfl, hi, e2, acc, I, q⟩
  have hB : ∀ a, Avo (ad Bx L) (L2.wipe σ vs) (wipeE e2 vs) a → H1 a ≠ none → Avo Bx σ e1 a := fun a z n => by
    rcases z with z | z | z
    · exact .inl (I.av a z)
    · exact .inr z
    · rw [z] at n; exact absurd hL n
  obtain ⟨w1, w2⟩ := p.w H2 (Avo (ad Bx L) (L2.wipe σ vs) (wipeE e2 vs)) I.k hB i
  by_cases hl : i < ds.length
  · obtain ⟨go, yl⟩ := w1 ds[i] (List.getElem?_eq_getElem hl)
    rw [List.drop_eq_getElem_cons hl] at q
    refine .inr ⟨go, fun Hh => ∃ e3 acc', LcI C.K Bx σ vs H1 e1 L acc' Hh e3 ∧ ((lcLoop g tt te vs (ds.drop (i + 1)) acc' e3).bind fun ys e2 => (.ok ⟨.list ys, true⟩ (resE e1 e2 vs) : Res Rs)).run (fun r e' => ∀ v H', Post C.K Bx σ H e r e' v H' → Q v H') (EX C W σ H1 e1), fun H3 ⟨e3, acc', p3, q3⟩ => ⟨ds.length - (i + 1), by omega, rfl, hl, e3, acc', p3, q3⟩, fun x Hy y => ?_⟩
    obtain ⟨ky, rp⟩ := yl x Hy y
    have sy := I.s.heap ky
    unfold lcLoop at q
    cases z : g ⟨ds[i], false⟩ (wipeE e2 vs) with
    | none => rw [z] at q; exact q.elim
    | some e3 =>
      rw [z] at q
      refine ⟨wipeE e2 vs, ad Bx L, ⟨ds[i], false⟩, e3, ⟨sy, rp⟩, z, fun σ2 g2 => ?_⟩
      have hw : L2.wipe σ2 vs = L2.wipe σ vs := (wipe_eq (σ := L2.wipe σ vs) (by rw [g2.len]) (by rw [wipe_length]; exact g2.io)).trans wipe_wipe
      refine ⟨hw, e3, ad Bx L, g2.s, ?_⟩
      cases zt : tt e3 with
      | st => simp only [zt] at q; exact q.elim
      | ex _ => simp only [zt] at q; exact q.elim
      | ok b e4 =>
        simp only [zt] at q
        show ∀ H3, PostT C.K (ad Bx L) σ2 Hy e3 e4 H3 → _
        intro H3 t
        cases b with
        | false =>
          obtain ⟨_, I3, _⟩ := LcI.turn (e4 := e4) (y := x) (H4 := H3) rfl I hL p.s ky g2 t
          exact iteF ⟨e4, acc, I3, q⟩
        | true =>
          refine iteT ⟨e4, ad Bx L, t.s, ?_⟩
          simp only at q
          cases ze : te e4 with
          | st => simp only [ze] at q; exact q.elim
          | ex _ => simp only [ze] at q; exact q.elim
          | ok r e5 =>
            simp only [ze] at q
            show ∀ v H', Post C.K (ad Bx L) σ2 H3 e4 r e5 v H' → _
            intro yv H4 p4
            obtain ⟨_, _, I4⟩ := LcI.turn (e4 := e5) (y := yv) (H4 := H4) rfl I hL p.s ky g2 t
            obtain ⟨xs, hx, hxl, I5⟩ := I4 p4
            split at q
            · rename_i hm
              exact ⟨xs, hx, by rw [hxl]; exact most_lt (Nat.le_of_lt hm), e5, _, I5, q⟩
            · exact q.elim
  · have e : i = ds.length := by omega
    subst e
    rw [List.drop_length] at q
    exact .inl ⟨w2 (Nat.le_refl _), q _ H2 (Post.after_i p (I.done hL p.s ok))⟩
def xRe (i : Nat) (f : XF) : XF := fun e => (f e).bind fun r e2 => .ok r (relock e e2 i)
theorem re_run {i : Nat} {f : XF} {Q : VK} (h : TD C W (xRe i f) σ H Q) : TD C W f σ H Q := by
  obtain ⟨e, Bx, s, q⟩ := h
  exact ⟨e, Bx, s, run_mono (bind_run q) (fun r e2 q v H' p => q v H' p.relock) fun _ z => z⟩
/-- the list that is walked, locked meanwhile -/
def xLk (lk : Option Nat) (f : XF) : XF := match lk with
  | none => f
  | some i => xRe i f
theorem lk_run {lk : Option Nat} {f : XF} {Q : VK} (h : TD C W (xLk lk f) σ H Q) : TD C W f σ H Q := by
  cases lk with
  | none => exact h
  | some i => exact re_run h
abbrev GTs (C : Ct) (X : Cx) (W : WX) (ifs : List Expr) (f : En → Res Bool) : Prop := PTs X ifs (TDt C W f)
def tTrue : En → Res Bool := fun e => .ok true e
theorem gts_nil : GTs C X W [] tTrue := ⟨fun pins s σ H Q I ⟨e, Bx, si, q⟩ => (pts_nil (X := X)).run pins s σ H Q I (q H ⟨.refl, .refl, si⟩)⟩
theorem gts_one {c : Expr} {f : En → Res Bool} (h : GT C X W c f) : GTs C X W [c] f := pts_one h
section
variable {elt tg iter : Expr} {ifs : List Expr} {scope : Scope} {own : List (Str × Nat)} {it : En → Res (List D)} {g : Rs → En → Option En} {tt : En → Res Bool} {te : XF} {lk : Option Nat}
theorem ge_lc (lk : Option Nat) (hc : X.calm = true) (hN : X.N.Nodup) (hi : GI C X W tg iter it) (ok : BlkOk X.N X.env.scope scope own)
    (hg : ∀ (s : Shared) (H : Hp) (A : Addr) (cl : List (Str × Addr)) (fp : List Addr), GG C (X.blk s H scope (compEnvC scope cl A X.env) fp) (oth X.N.length (own.map (·.2))) tg g)
    (ht : ∀ (s : Shared) (H : Hp) (A : Addr) (cl : List (Str × Addr)) (fp : List Addr), GTs C (X.blk s H scope (compEnvC scope cl A X.env) fp) W0 ifs tt)
    (he : ∀ (s : Shared) (H : Hp) (A : Addr) (cl : List (Str × Addr)) (fp : List Addr), GE C (X.blk s H scope (compEnvC scope cl A X.env) fp) W0 elt te) (hs : ∀ x, foldedSetIterable iter X.env x = pure x := by intro _; rfl) :
    GE C X W (.ListComp elt [⟨tg, iter, ifs, 0⟩] scope pos) (xLk lk (xLc it g tt te (own.map (·.2)))) :=
  ⟨fun pins s σ H Q I q => (pe_lc hc hN hi ok hg ht he hs).run pins s σ H Q I (lc_run I.len (lk_run q))⟩
theorem gv_run {i : Nat} {Q : L2.St → Hp → Prop} (hio : i ∉ io) (h : TDg C io (gV i) v σ H Q) : gName i v σ H Q := by
  obtain ⟨e, Bx, r, e', hh, hg, q⟩ := h
  refine q _ ?_
  unfold gV at hg
  split at hg
  · rename_i hl
    cases hg
    obtain ⟨d, fr⟩ := r
    cases fr with
    | false =>
      obtain ⟨s, rp⟩ := hh
      obtain ⟨s', wr, av⟩ := s.setSh hl rp
      exact ⟨s', fun a z => .inl (wr a z), fun a z => .inl (av a z), fun j m => st_set fun z => hio (z ▸ m), by simp⟩
    | true =>
      obtain ⟨p, rfl, nb, s, t⟩ := hh
      obtain ⟨s', wr, av⟩ := s.setOw nb hl t
      exact ⟨s', fun a z => (wr a z).imp id fun z => ⟨rfl, by rw [z]⟩, fun a z => (av a z).imp id fun z => ⟨rfl, by rw [z]⟩, fun j m => st_set fun z => hio (z ▸ m), by simp⟩
  · cases hg
theorem gs_setLc (lk : Option Nat) {i : Nat} {y : Str} {py spos : Pos} (hc : X.calm = true) (hN : X.N.Nodup) (hy : X.N[i]? = some y) (hyl : X.env.scope.names.lookup y = some .local) (hio : i ∉ io)
    (hsw : swapsWith (.ListComp elt [⟨tg, iter, ifs, 0⟩] scope pos) (some (.Name y py)) spos.line X.env = pure true) (hi : GI C X W tg iter it) (ok : BlkOk X.N X.env.scope scope own)
    (hg : ∀ (s : Shared) (H : Hp) (A : Addr) (cl : List (Str × Addr)) (fp : List Addr), GG C (X.blk s H scope (compEnvC scope cl A X.env) fp) (oth X.N.length (own.map (·.2))) tg g)
    (ht : ∀ (s : Shared) (H : Hp) (A : Addr) (cl : List (Str × Addr)) (fp : List Addr), GTs C (X.blk s H scope (compEnvC scope cl A X.env) fp) W0 ifs tt)
    (he : ∀ (s : Shared) (H : Hp) (A : Addr) (cl : List (Str × Addr)) (fp : List Addr), GE C (X.blk s H scope (compEnvC scope cl A X.env) fp) W0 elt te) (hs : ∀ x, foldedSetIterable iter X.env x = pure x := by intro _; rfl) :
    GS C X W io (.Assign [.Name y py] (.ListComp elt [⟨tg, iter, ifs, 0⟩] scope pos) spos) (sAsg (xLk lk (xLc it g tt te (own.map (·.2)))) (gV i)) :=
  ⟨fun pins s σ H Dd I q => (ps_setLc hc hN hy hyl hsw hi ok hg ht he hs).run pins s σ H Dd I (by
    have q' := asg_run q
    have q2 : TD C W (xLk lk (xLc it g tt te (own.map (·.2)))) σ H fun x H1 => gName i x σ H1 Dd.nx := by
      obtain ⟨e, Bx, s, q⟩ := q'
      exact ⟨e, Bx, s, run_mono q (fun r e1 q v H1 p => gv_run hio (q v H1 p)) fun _ z => z⟩
    exact lc_run I.len (lk_run q2))⟩
end
end
end G
end L2
namespace L2
namespace G
open PySem PySem.Spec PyProof.Rows

/-! ### functions -/
/-- the arguments as slots: an own list where the def writes -/
def slP : List Bool → List D → En
  | true :: ps, d :: ds => .ow true d :: slP ps ds
  | false :: ps, d :: ds => .sh d :: slP ps ds
  | _, _ => []
def backP : List Bool → En → En → Option En
  | true :: ps, _ :: e0, .ow true d :: eb => (backP ps e0 eb).map (.ow true d :: ·)
  | false :: ps, s :: e0, _ :: eb => (backP ps e0 eb).map (s :: ·)
  | [], _, _ => some []
  | _, _, _ => none
def ioP : Nat → List Bool → List Nat
  | _, [] => []
  | k, true :: ps => k :: ioP (k + 1) ps
  | k, false :: ps => ioP (k + 1) ps
/-- what a def's body makes of the arguments; n: the other names -/
def fnD (body : SF) (pat : List Bool) (n : Nat) : XF := fun e0 => match body (e0 ++ List.replicate n .un) with
  | .ok (.rt r) eb => (match backP pat e0 eb with | some e' => .ok r e' | none => .st)
  | .ok .nx eb => (match backP pat e0 eb with | some e' => .ok ⟨.none, false⟩ e' | none => .st)
  | .ex x => .ex x
  | _ => .st
/-- room for k calls, and no repr under way -/
structure Rm (k : Nat) (A : Around) : Prop where
  r : Room k A
  g : A.guards = some []
theorem Rm.mono {j k : Nat} {A : Around} (h : Rm k A) (hj : j ≤ k) : Rm j A := ⟨h.r.mono hj, h.g⟩
theorem Rm.deeper {k : Nat} {A : Around} (h : Rm (k + 1) A) (env : Env) : Rm k (A.deeper env) := ⟨h.r.deeper env, h.g⟩
/-- a def's promise where no repr is under way -/
structure FnG (P : Program) (w : World) (K : PySem.W.Frag) (mg : Str → Option Value) (base : Heap) (k : Nat) (f : Addr) (fd : FuncData) (ps : List Str) (sp : Sp) : Prop where
  len : ∀ vs H Q E, sp vs H Q E → vs.length = ps.length
  run : ∀ (A : Around) (outer : List Env) (s : Shared) (H : Hp) (args : Args) (us : List Value) (vs : List V) (Q : VK) (E : XK),
    Rm k A → Env0 P w K mg base A outer s H → BindsTo s fd args (ps.zip us) → Vals vs us → sp vs H Q E →
    codeAny (model P w) A (.call (.ref f) args) (CR (L2.CX P w) outer P w H s Q E) s
theorem FnG.mono {P : Program} {w : World} {K : PySem.W.Frag} {mg : Str → Option Value} {base : Heap} {j k : Nat} {f : Addr} {fd : FuncData} {ps : List Str} {sp : Sp} (F : FnG P w K mg base j f fd ps sp) (h : j ≤ k) : FnG P w K mg base k f fd ps sp :=
  ⟨F.len, fun A outer s H args us vs Q E hr => F.run A outer s H args us vs Q E (hr.mono h)⟩
theorem FnG.imp {P : Program} {w : World} {K : PySem.W.Frag} {mg : Str → Option Value} {base : Heap} {k : Nat} {f : Addr} {fd : FuncData} {ps : List Str} {sp sp' : Sp} (F : FnG P w K mg base k f fd ps sp) (h : ∀ vs H Q E, sp' vs H Q E → sp vs H Q E) : FnG P w K mg base k f fd ps sp' :=
  ⟨fun vs H Q E x => F.len vs H Q E (h _ _ _ _ x), fun A outer s H args us vs Q E hr e b r x => F.run A outer s H args us vs Q E hr e b r (h _ _ _ _ x)⟩
/-- from a def's body -/
theorem Fun.okG {P : Program} {w : World} {K : PySem.W.Frag} {mg : Str → Option Value} {base : Heap} {x qual : Str} {st : Stmt} {f : Addr} {fd : FuncData} {N ps : List Str} {k : Nat} {sp : Sp} (F : Fun K x qual st f fd) (S : FnScope N ps (defScope st)) (len : ∀ vs H Q E, sp vs H Q E → vs.length = ps.length)
    (hbody : ∀ (cdv : Value) (A : Around) (outer : List Env) (s : Shared) (H : Hp) (vs : List V) (Q : VK) (E : XK), Rm k (A.deeper (envOfC qual (defScope st) s.heap.objs.size f cdv)) → sp vs H Q E →
      ∃ t, PSs (cxOf (L2.CX P w) P w K mg base N qual (defScope st) f cdv A outer s H E) (defBody st) t ∧ t { nx := fun _ H' => Q .non H', rt := Q } (L2.start N vs) H) : FnG P w K mg base (k + 1) f fd ps sp := by
  obtain ⟨oc, od, kV, doc, pm, an, cdv, ct, osl, rfl, lk, hcd⟩ := F.ex
  constructor
  · exact len
  intro A outer s H args us vs Q E hr e0 hb r hsp
  have below : ∀ b o, base.get? b = some o → s.heap.get? b = some o := fun b o e => (e0.bs b o e).1
  have KX : K.In s.heap := e0.mod.kin.keeps below
  have hk : ∀ y ∈ ps.zip us, (defScope st).names.lookup y.1 = some .local ∨ ((defScope st).names.lookup y.1 = some .cell ∧
      ((cellsFrom (s.heap.objs.size + 1) (defScope st).names []).lookup y.1).isSome = true) := by
    rintro ⟨n, v⟩ hy
    have hm := (List.of_mem_zip hy).1
    exact (S.par n hm).imp id fun q => ⟨q, PySem.W.cellsFrom_some _ _ _ (.inl q)⟩
  apply codeAny_call_function hr.r.depth (KX _ _ lk) rfl S.co S.gen rfl
    (PySem.W.codeRec_of KX hcd)
  apply hb
  apply wpAny_newFunctionEnv_cells S.kind hk
  rintro env rfl s1 x
  refine ⟨(e0.mod.nolimit.keeps below).keeps x.toInCall.keep, ?_⟩
  apply codeAny_func
  obtain ⟨t, ht, hq⟩ := hbody cdv A outer s H vs Q E (hr.deeper _) hsp
  have I := inv_start (CX := L2.CX P w) (P := P) (w := w) (K := K) (mg := mg) (base := base) (qual := qual) (f := f) (cd := cdv) (E := E) S hr.r.hd e0 (len _ _ _ _ hsp) r x
  refine wpAny_mono (ht.run [] s1 (L2.start N vs) H _ I hq)
    (fun fl s' hs => ?_) fun _ _ z => z
  match fl, hs with
  | .ret u, ⟨v, σ', H', J, rv, q⟩ => exact ⟨v, H', J.os, J.bare, J.base, J.hok, rv, q⟩
  | .next, ⟨σ', H', J, q⟩ => exact ⟨.non, H', J.os, J.bare, J.base, J.hok, rfl, q⟩
  | .brk, ⟨_, _, _, q⟩ => exact q.elim
  | .cont, ⟨_, _, _, q⟩ => exact q.elim
theorem run_fnG {X : Cx} {k : Nat} {f : Addr} {fd : FuncData} {ps : List Str} {sp : Sp} {W : WX} {pins : List (Addr × Obj)} {σ : L2.St} {H : Hp} {s : Shared} {Q : VK} {us : List Value} {vs : List V} (F : FnG X.prog X.w X.K X.mg X.base k f fd ps sp) (hr : Rm k X.A) (hb : Binds X.K fd ps []) (tk : Takes X W)
    (I : Inv X pins σ H s) (r : Vals vs us) (h : sp vs H Q (WE W σ)) : wpAny (model X.prog X.w) X.A (call (.ref f) us) (EP X pins σ Q) X.xe s := by
  have b := hb s us I.kIn
  rw [List.append_nil] at b
  have b := b (by rw [← r.length]; exact F.len _ _ _ _ h)
  apply wpAny_call
  refine codeAny_mono (F.run X.A X.stack s H ⟨us, []⟩ us vs Q (WE W σ) hr I.env0 b r h) fun r s' hq => ?_
  match r, hq with
  | .error e, hq => exact passAt tk σ pins H s e s' I hq
  | .ok (.ret u), hq => exact I.after hq
theorem pe_callG {X : Cx} {k : Nat} {f : Addr} {fd : FuncData} {ps : List Str} {sp : Sp} {W : WX} {x : Str} {p pos : Pos} {e : Expr} {es : List Expr} {t : TA} (F : FnG X.prog X.w X.K X.mg X.base k f fd ps sp) (hr : Rm k X.A) (hg : Gl X x) (hm : X.mg x = some (.ref f)) (hk : PySem.W.keepIn X.K (.ref f) = true) (hb : Binds X.K fd ps []) (tk : Takes X W)
    (ha : PA X (e :: es) t) (hdb : (x == ("__debug__" : Str)) = false := by decide) (he : starEach (e :: es) X.env = (false, eval e X.env) :: starEach es X.env := by rfl) (hpl : (backTo pos (starEach es X.env)).any (·.1) = false := by rfl) :
    PE X (.Call (.Name x p) (e :: es) [] pos) (tCallS sp (WE W) t) :=
  ⟨fun pins s σ H Q I h => wpAny_Call_Name_kw (ld_glob I hg hm (PySem.W.callWith_K (h₀ := X.base) I.ok.mod.kin hk
    (thn (ha.run pos pins s σ H _ I h) fun us s1 ⟨vs, H1, I1, r, q⟩ => ⟨I1.kIn, run_fnG F hr hb tk I1 r q⟩) he hpl) hdb)⟩
/-- φ says what ψ says, or nothing -/
def Sub (φ ψ : XF) : Prop := ∀ e, φ e = .st ∨ φ e = ψ e
def spF (C : Ct) (pat : List Bool) (φ : XF) : Sp := fun vs H Q E => ∃ (ds : List D) (Bx : Addr → Prop), vs.length = pat.length ∧ ds.length = pat.length ∧ Sim C.K Bx (vs.map some) H (slP pat ds) ∧
  (φ (slP pat ds)).run (fun r e' => ∀ v H', Post C.K Bx (vs.map some) H (slP pat ds) r e' v H' → Q v H') (fun x => ∀ cls d H', ExR C x cls d H' → Fr (vs.map some) (slP pat ds) H H' → E cls d H')
/-- a def of the text that does what φ says, with at most k calls in one another -/
structure GF (C : Ct) (P : Program) (w : World) (mg : Str → Option Value) (base : Heap) (k : Nat) (x : Str) (pat : List Bool) (φ : XF) : Prop where
  ex : ∃ (f : Addr) (fd : FuncData) (ps : List Str), FnG P w C.K mg base k f fd ps (spF C pat φ) ∧ mg x = some (.ref f) ∧ PySem.W.keepIn C.K (.ref f) = true ∧ Binds C.K fd ps []
theorem GF.imp {C : Ct} {P : Program} {w : World} {mg : Str → Option Value} {base : Heap} {k j : Nat} {x : Str} {pat : List Bool} {φ ψ : XF} (h : GF C P w mg base k x pat ψ) (s : Sub φ ψ) (hk : k ≤ j) : GF C P w mg base j x pat φ := by
  obtain ⟨f, fd, ps, F, m, kp, b⟩ := h.ex
  refine ⟨f, fd, ps, (F.mono hk).imp fun vs H Q E ⟨ds, Bx, h1, h2, h3, h4⟩ => ⟨ds, Bx, h1, h2, h3, ?_⟩, m, kp, b⟩
  rcases s (slP pat ds) with z | z
  · rw [z] at h4; exact h4.elim
  · rw [← z]; exact h4

section
variable {C : Ct} {X : Cx} {W : WX} {K : PySem.W.Frag} {Bx S B : Addr → Prop} {io : List Nat} {σ σ' σ1 σ2 : L2.St} {H H' H1 H2 : Hp} {e0 e' e1 e2 : En} {e a b : Expr} {pos : Pos} {d : D} {v : V} {st : Stmt} {r : Rs} {p : Addr} {ds : List D} {xs : List V}

theorem slP_length : ∀ {pat : List Bool} {ds : List D}, ds.length = pat.length → (slP pat ds).length = pat.length
  | [], [], _ => rfl
  | true :: ps, d :: ds, h => by simp only [slP, List.length_cons] at *; rw [slP_length (by omega)]
  | false :: ps, d :: ds, h => by simp only [slP, List.length_cons] at *; rw [slP_length (by omega)]
  | [], d :: ds, h => by simp at h
  | _ :: _, [], h => by simp at h
theorem slP_get : ∀ {pat : List Bool} {ds : List D} {i : Nat} {y : Sl}, (slP pat ds)[i]? = some y → ∃ d, ds[i]? = some d ∧ ((pat[i]? = some true ∧ y = .ow true d) ∨ (pat[i]? = some false ∧ y = .sh d))
  | true :: ps, d :: ds, 0, y, h => by simp [slP] at h; exact ⟨d, rfl, .inl ⟨rfl, h.symm⟩⟩
  | false :: ps, d :: ds, 0, y, h => by simp [slP] at h; exact ⟨d, rfl, .inr ⟨rfl, h.symm⟩⟩
  | true :: ps, d :: ds, i + 1, y, h => by simp only [slP, List.getElem?_cons_succ] at *; exact slP_get h
  | false :: ps, d :: ds, i + 1, y, h => by simp only [slP, List.getElem?_cons_succ] at *; exact slP_get h
  | [], _, _, _, h => by simp [slP] at h
  | true :: _, [], _, _, h => by simp [slP] at h
  | false :: _, [], _, _, h => by simp [slP] at h
/-- all shared -/
theorem slP_all : ∀ {n : Nat} {ds : List D}, ds.length = n → slP (List.replicate n false) ds = ds.map .sh
  | 0, [], _ => rfl
  | n + 1, d :: ds, h => by simp only [List.replicate_succ, slP, List.map_cons]; rw [slP_all (by simpa using h)]
  | 0, _ :: _, h => by simp at h
  | n + 1, [], h => by simp at h
theorem backP_get : ∀ {pat : List Bool} {e0 eb e' : En} {i : Nat} {y : Sl}, backP pat e0 eb = some e' → e'[i]? = some y → (pat[i]? = some true ∧ ∃ d, y = .ow true d ∧ eb[i]? = some y) ∨ (pat[i]? = some false ∧ e0[i]? = some y)
  | true :: ps, _ :: e0, .ow true d :: eb, e', i, y, h, q => by
    unfold backP at h
    cases z : backP ps e0 eb with
    | none => rw [z] at h; cases h
    | some t =>
      rw [z] at h; cases h
      cases i with
      | zero => simp at q; subst q; exact .inl ⟨rfl, d, rfl, rfl⟩
      | succ i => simpa using backP_get z (by simpa using q)
  | false :: ps, s :: e0, _ :: eb, e', i, y, h, q => by
    unfold backP at h
    cases z : backP ps e0 eb with
    | none => rw [z] at h; cases h
    | some t =>
      rw [z] at h; cases h
      cases i with
      | zero => simp at q; subst q; exact .inr ⟨rfl, rfl⟩
      | succ i => simpa using backP_get z (by simpa using q)
  | [], _, _, e', i, y, h, q => by unfold backP at h; cases h; simp at q
  | true :: _, _, [], _, _, _, h, _ => by simp [backP] at h
  | true :: _, _, .un :: _, _, _, _, h, _ => by simp [backP] at h
  | true :: _, _, .sh _ :: _, _, _, _, h, _ => by simp [backP] at h
  | true :: _, _, .ow false _ :: _, _, _, _, h, _ => by simp [backP] at h
  | true :: _, [], .ow true _ :: _, _, _, _, h, _ => by simp [backP] at h
  | false :: _, [], _, _, _, _, h, _ => by simp [backP] at h
  | false :: _, _ :: _, [], _, _, _, h, _ => by simp [backP] at h
theorem backP_length : ∀ {pat : List Bool} {e0 eb e' : En}, backP pat e0 eb = some e' → e'.length = pat.length
  | true :: ps, _ :: e0, .ow true d :: eb, e', h => by
    unfold backP at h
    cases z : backP ps e0 eb with
    | none => rw [z] at h; cases h
    | some t => rw [z] at h; cases h; simp [backP_length z]
  | false :: ps, s :: e0, _ :: eb, e', h => by
    unfold backP at h
    cases z : backP ps e0 eb with
    | none => rw [z] at h; cases h
    | some t => rw [z] at h; cases h; simp [backP_length z]
  | [], _, _, e', h => by unfold backP at h; cases h; rfl
  | true :: _, _, [], _, h => by simp [backP] at h
  | true :: _, _, .un :: _, _, h => by simp [backP] at h
  | true :: _, _, .sh _ :: _, _, h => by simp [backP] at h
  | true :: _, _, .ow false _ :: _, _, h => by simp [backP] at h
  | true :: _, [], .ow true _ :: _, _, h => by simp [backP] at h
  | false :: _, [], _, _, h => by simp [backP] at h
  | false :: _, _ :: _, [], _, h => by simp [backP] at h
theorem ioP_mem : ∀ {pat : List Bool} {k i : Nat}, pat[i]? = some true → k + i ∈ ioP k pat
  | true :: ps, k, 0, _ => by simp [ioP]
  | true :: ps, k, i + 1, h => by
    have := ioP_mem (k := k + 1) (i := i) (pat := ps) (by simpa using h)
    simp only [ioP, List.mem_cons]; right
    rw [show k + (i + 1) = k + 1 + i by omega]; exact this
  | false :: ps, k, 0, h => by simp at h
  | false :: ps, k, i + 1, h => by
    have := ioP_mem (k := k + 1) (i := i) (pat := ps) (by simpa using h)
    simp only [ioP]
    rw [show k + (i + 1) = k + 1 + i by omega]; exact this
  | [], _, _, h => by simp at h

theorem app_look {i n : Nat} {y : Sl} (h : (e0 ++ List.replicate n Sl.un)[i]? = some y) : y = .un ∨ e0[i]? = some y := by
  rw [List.getElem?_append] at h
  split at h
  · exact .inr h
  · rw [List.getElem?_replicate] at h
    split at h
    · exact .inl (Option.some.inj h).symm
    · cases h
/-- a def's first state -/
theorem Sim.begin {vs : List V} {n : Nat} (s : Sim K Bx (vs.map some) H e0) : Sim K Bx (vs.map some ++ List.replicate n none) H (e0 ++ List.replicate n .un) ∧ (∀ a, Wr (vs.map some ++ List.replicate n none) (e0 ++ List.replicate n .un) a ↔ Wr (vs.map some) e0 a) ∧ ∀ a, Av (vs.map some ++ List.replicate n none) (e0 ++ List.replicate n .un) a ↔ Av (vs.map some) e0 a := by
  have lk : ∀ {i : Nat} {v : Option V}, e0[i]? ≠ none → ((vs.map some ++ List.replicate n none)[i]? = some v ↔ (vs.map some)[i]? = some v) := fun {i v} h => by
    have hl : i < (vs.map some).length := by
      rw [← s.len]
      rcases Nat.lt_or_ge i e0.length with z | z
      · exact z
      · exact absurd (List.getElem?_eq_none z) h
    rw [List.getElem?_append_left hl]
  have en : ∀ {i : Nat} {y : Sl}, e0[i]? = some y → (e0 ++ List.replicate n Sl.un)[i]? = some y := fun {i y} h => by
    rw [List.getElem?_append_left (en_lt h)]; exact h
  have nn : ∀ {i : Nat} {y : Sl}, e0[i]? = some y → e0[i]? ≠ none := fun h z => by rw [h] at z; cases z
  have wr : ∀ a, Wr (vs.map some ++ List.replicate n none) (e0 ++ List.replicate n .un) a ↔ Wr (vs.map some) e0 a := fun a => ⟨fun ⟨j, d', q1, q2⟩ => by
    rcases app_look q1 with z | z
    · cases z
    · exact ⟨j, d', z, (lk (nn z)).mp q2⟩, fun ⟨j, d', q1, q2⟩ => ⟨j, d', en q1, (lk (nn q1)).mpr q2⟩⟩
  have av : ∀ a, Av (vs.map some ++ List.replicate n none) (e0 ++ List.replicate n .un) a ↔ Av (vs.map some) e0 a := fun a => ⟨fun ⟨j, w, d', q1, q2⟩ => by
    rcases app_look q1 with z | z
    · cases z
    · exact ⟨j, w, d', z, (lk (nn z)).mp q2⟩, fun ⟨j, w, d', q1, q2⟩ => ⟨j, w, d', en q1, (lk (nn q1)).mpr q2⟩⟩
  have an : ∀ a, Avo Bx (vs.map some ++ List.replicate n none) (e0 ++ List.replicate n .un) a → Avo Bx (vs.map some) e0 a := fun a z => z.imp (av a).mp id
  refine ⟨⟨by simp [s.len], fun j d' q => ?_, fun j w d' q => ?_, fun j k w' w'' d' d'' a q1 q2 q3 q4 => ?_, s.bx⟩, wr, av⟩
  · rcases app_look q with z | z
    · cases z
    · obtain ⟨v, r1, r2⟩ := s.sh j d' z
      exact ⟨v, (lk (nn z)).mpr r1, r2.anti an⟩
  · rcases app_look q with z | z
    · cases z
    · obtain ⟨a, r1, r2, r3⟩ := s.ow j w d' z
      exact ⟨a, (lk (nn z)).mpr r1, r2, r3.anti an⟩
  · rcases app_look q1 with z | z
    · cases z
    · rcases app_look q2 with z' | z'
      · cases z'
      · exact s.inj j k _ _ _ _ a z z' ((lk (nn z)).mp q3) ((lk (nn z')).mp q4)
/-- a def's end -/
theorem fn_end {vs : List V} {n : Nat} {pat : List Bool} {eb : En} (hl : vs.length = pat.length) (s : Sim K Bx (vs.map some) H (slP pat ds)) (hb : backP pat (slP pat ds) eb = some e')
    (h : RPost K Bx (ioP 0 pat) (vs.map some ++ List.replicate n none) H (slP pat ds ++ List.replicate n .un) r σ' H' eb v) : Post K Bx (vs.map some) H (slP pat ds) r e' v H' := by
  obtain ⟨s0, wr0, av0⟩ := s.begin (n := n)
  have fr : Fr (vs.map some) (slP pat ds) H H' := h.k.anti fun a z => (wr0 a).mp z
  have io : ∀ {i : Nat}, pat[i]? = some true → σ'[i]? = (vs.map some)[i]? := fun {i} q => by
    have m := ioP_mem (k := 0) q
    rw [Nat.zero_add] at m
    rw [h.io i m, List.getElem?_append_left]
    have := (List.getElem?_eq_some_iff.mp q).1
    simp; omega
  -- an own slot of e' is one of eb, at the same address
  have ow : ∀ {i : Nat} {w : Bool} {d : D}, e'[i]? = some (Sl.ow w d) → eb[i]? = some (Sl.ow w d) ∧ w = true ∧ σ'[i]? = (vs.map some)[i]? ∧ pat[i]? = some true := fun {i w d} q => by
    rcases backP_get hb q with ⟨z1, d', z2, z3⟩ | ⟨z1, z2⟩
    · cases z2; exact ⟨z3, rfl, io z1, z1⟩
    · obtain ⟨d', _, z | z⟩ := slP_get z2
      · rw [z1] at z; cases z.1
      · cases z.2
  have toEb : ∀ a, Av (vs.map some) e' a → Av σ' eb a := fun a ⟨j, w, d', q1, q2⟩ => by
    obtain ⟨z1, z2, z3, _⟩ := ow q1
    exact ⟨j, w, d', z1, by rw [z3]; exact q2⟩
  have to0 : ∀ a, Av (vs.map some) e' a → Wr (vs.map some) (slP pat ds) a := fun a ⟨j, w, d', q1, q2⟩ => by
    obtain ⟨_, _, _, z4⟩ := ow q1
    have : ∃ d0, (slP pat ds)[j]? = some (.ow true d0) := by
      rcases backP_get hb q1 with ⟨z1, _⟩ | ⟨z1, z2⟩
      · have hj : j < (slP pat ds).length := by
          rw [s.len]
          have := (List.getElem?_eq_some_iff.mp q2).1
          exact this
        obtain ⟨d0, _, z | z⟩ := slP_get (List.getElem?_eq_getElem hj)
        · exact ⟨d0, by rw [List.getElem?_eq_getElem hj, z.2]⟩
        · rw [z4] at z; cases z.1
      · rw [z4] at z1; cases z1
    obtain ⟨d0, z⟩ := this
    exact ⟨j, d0, z, q2⟩
  have le : Le (vs.map some) (slP pat ds) e' := ⟨fun a z => to0 a z.av, fun a z => (to0 a z).av⟩
  have len : e'.length = (vs.map some).length := by rw [backP_length hb, List.length_map, hl]
  have body : ∀ (By : Addr → Prop), (∀ a, By a → H a ≠ none → Bx a) → Sim K By σ' H' eb → Sim K By (vs.map some) H' e' := fun By hy sb => by
    have an : ∀ a, Avo By (vs.map some) e' a → Avo By σ' eb a := fun a z => z.imp (toEb a) id
    refine ⟨len, fun j d' q => ?_, fun j w d' q => ?_, fun j k w' w'' d' d'' a q1 q2 q3 q4 => ?_, sb.bx⟩
    · rcases backP_get hb q with ⟨_, d2, z2, _⟩ | ⟨z1, z2⟩
      · cases z2
      · obtain ⟨v, r1, r2⟩ := s.sh j d' z2
        exact ⟨v, r1, r2.go (fr.anti fun a z => .inl z.av) fun a z n => z.elim (fun z => .inl (to0 a z).av) fun z => .inr (hy a z n)⟩
    · obtain ⟨z1, _, z3, _⟩ := ow q
      obtain ⟨a, r1, r2, r3⟩ := sb.ow j w d' z1
      exact ⟨a, by rw [← z3]; exact r1, r2, r3.anti an⟩
    · obtain ⟨z1, _, z3, _⟩ := ow q1
      obtain ⟨y1, _, y3, _⟩ := ow q2
      exact sb.inj j k _ _ _ _ a z1 y1 (by rw [z3]; exact q3) (by rw [y3]; exact q4)
  obtain ⟨dd, fr'⟩ := r
  have hi := h.is
  cases fr' with
  | false =>
    obtain ⟨sb, rp⟩ := hi
    exact .mk0 fr le (body Bx (fun _ z _ => z) sb) (rp.anti fun a z => z.imp (toEb a) id)
  | true =>
    obtain ⟨p, rfl, nb, sb, t⟩ := hi
    have np : H p = none := by
      rcases h.new rfl p rfl with z | z
      · obtain ⟨j, d', q1, q2⟩ := (wr0 p).mp z
        obtain ⟨d0, _, y | y⟩ := slP_get q1
        · -- an own argument: it stands at the end, p is another
          have hj : j < e'.length := by rw [len]; exact (List.getElem?_eq_some_iff.mp q2).1
          have g := List.getElem?_eq_getElem hj
          rcases backP_get hb g with ⟨z1, d2, z2, z3⟩ | ⟨z1, _⟩
          · rw [z2] at z3
            obtain ⟨a, r1, r2, _⟩ := sb.ow j true d2 z3
            rw [io z1, q2] at r1; cases r1
            exact absurd (.inr rfl) r2
          · rw [y.1] at z1; cases z1
        · cases y.2
      · exact z
    refine ⟨fr, le, ⟨p, rfl, nb, body (ad Bx p) (fun a z n => ?_) sb, t.anti fun a z => z.imp (toEb a) id⟩, fun _ _ z => by cases z; exact np⟩
    rcases z with z | z
    · exact z
    · rw [z] at n; exact absurd np n
/-- THE RULE of a def -/
theorem gf_mk {P : Program} {w : World} {mg : Str → Option Value} {base : Heap} {k : Nat} {x qual : Str} {f : Addr} {fd : FuncData} {N ps : List Str} {pat : List Bool} {body : SF} (F : Fun C.K x qual st f fd) (hm : mg x = some (.ref f)) (bd : Binds C.K fd ps []) (Sc : FnScope N ps (defScope st)) (hp : ps.length = pat.length)
    (hb : ∀ (cdv : Value) (A : Around) (outer : List Env) (s : Shared) (H : Hp) (E : XK), Rm k (A.deeper (envOfC qual (defScope st) s.heap.objs.size f cdv)) →
      GSs C (cxOf (L2.CX P w) P w C.K mg base N qual (defScope st) f cdv A outer s H E) (fun cls d _ H => E cls d H) (ioP 0 pat) (defBody st) body) : GF C P w mg base (k + 1) x pat (fnD body pat (N.length - ps.length)) := by
  refine ⟨f, fd, ps, Fun.okG F Sc (fun vs H Q E ⟨ds, Bx, h1, _⟩ => by rw [h1, hp]) (fun cdv A outer s H vs Q E hr ⟨ds, Bx, h1, h2, h3, h4⟩ => ⟨_, hb cdv A outer s H E hr, ?_⟩), hm, F.kp, bd⟩
  have hn : N.length - vs.length = N.length - ps.length := by rw [h1, hp]
  obtain ⟨s0, wr0, av0⟩ := h3.begin (n := N.length - ps.length)
  refine ⟨slP pat ds ++ List.replicate (N.length - ps.length) .un, Bx, by unfold L2.start; rw [hn]; exact s0, ?_⟩
  unfold L2.start
  rw [hn]
  unfold fnD at h4
  cases z : body (slP pat ds ++ List.replicate (N.length - ps.length) .un) with
  | st => rw [z] at h4; exact h4.elim
  | ex y =>
    rw [z] at h4
    exact fun cls d σ' H' _ r q => h4 cls d H' r (q.anti fun a z => (wr0 a).mp z)
  | ok fl eb =>
    rw [z] at h4
    cases fl with
    | ct => exact h4.elim
    | rt r =>
      dsimp only at h4
      cases y : backP pat (slP pat ds) eb with
      | none => rw [y] at h4; exact h4.elim
      | some e' =>
        rw [y] at h4
        exact fun σ' v H' p => h4 v H' (fn_end h1 h3 y p)
    | nx =>
      dsimp only at h4
      cases y : backP pat (slP pat ds) eb with
      | none => rw [y] at h4; exact h4.elim
      | some e' =>
        rw [y] at h4
        exact fun σ' H' p => h4 .non H' (fn_end h1 h3 y ⟨p.k, p.av, ⟨p.s, .non⟩, (fun z => nomatch z), p.io⟩)
end
end G
end L2
namespace L2
namespace G
open PySem PySem.Spec PyProof.Rows
section
variable {C : Ct} {X : Cx} {W : WX} {K : PySem.W.Frag} {Bx By S B : Addr → Prop} {io : List Nat} {σ σ' σ1 σ2 : L2.St} {H H' H1 H2 : Hp} {e0 e' e1 e2 : En} {e a b : Expr} {pos : Pos} {d d' : D} {v : V} {st : Stmt} {r : Rs} {p : Addr} {ds : List D} {xs : List V}

/-- the heap turns at p alone, the own list i; more may be avoided, if it is new -/
theorem Sim.turn {i : Nat} {w : Bool} (s : Sim K Bx σ H e0) (h : e0[i]? = some (Sl.ow w d)) (hp : σ[i]? = some (some (V.ref p))) (kp : Kp (· = p) H H') (hy : ∀ a, By a → H a ≠ none → Bx a) (hz : ∀ a, By a → H' a ≠ none) (nb : ¬ By p)
    (t : Top K H' (Avo By σ e0) p d') : Sim K By σ H' (e0.set i (.ow true d')) ∧ ∀ a, Av σ (e0.set i (.ow true d')) a → Av σ e0 a := by
  have pa : Av σ e0 p := ⟨i, w, d, h, hp⟩
  have fa : Kp (Avo Bx σ e0) H H' := kp.anti fun a z => by rw [z]; exact .inl pa
  have av : ∀ a, Av σ (e0.set i (.ow true d')) a → Av σ e0 a := fun a ⟨j, w', d', h1, h2⟩ => by
    rcases set_look h1 with ⟨rfl, z⟩ | ⟨_, z⟩
    · rw [hp] at h2; cases h2; exact pa
    · exact ⟨j, w', d', z, h2⟩
  have an : ∀ a, Avo By σ (e0.set i (.ow true d')) a → H a ≠ none → Avo Bx σ e0 a := fun a z n => z.elim (fun z => .inl (av a z)) fun z => .inr (hy a z n)
  refine ⟨⟨by rw [List.length_set]; exact s.len, fun j d' h1 => ?_, fun j w' d' h1 => ?_, fun j k w' w'' da db a h1 h2 h3 h4 => ?_, hz⟩, av⟩
  · rcases set_look h1 with ⟨rfl, z⟩ | ⟨_, z⟩
    · cases z
    · obtain ⟨v, r1, r2⟩ := s.sh j d' z
      exact ⟨v, r1, r2.go fa an⟩
  · rcases set_look h1 with ⟨rfl, z⟩ | ⟨n, z⟩
    · cases z; exact ⟨p, hp, nb, t.anti fun a z => z.imp (av a) id⟩
    · obtain ⟨a, r1, r2, r3⟩ := s.ow j w' d' z
      have na : a ≠ p := fun q => by subst q; exact n (s.inj j i _ _ _ _ a z h r1 hp)
      refine ⟨a, r1, fun q => r2 (hy a q (s.there ⟨j, w', d', z, r1⟩)), r3.go fa an fun o q => kp.keep a o q na⟩
  · have key : ∀ {j w d}, (e0.set i (.ow true d'))[j]? = some (Sl.ow w d) → ∃ w' d', e0[j]? = some (Sl.ow w' d') := fun {j w d} h => by
      rcases set_look h with ⟨rfl, _⟩ | ⟨_, z⟩
      · exact ⟨_, _, by assumption⟩
      · exact ⟨_, _, z⟩
    obtain ⟨_, _, k1⟩ := key h1
    obtain ⟨_, _, k2⟩ := key h2
    exact s.inj j k _ _ _ _ a k1 k2 h3 h4
/-- all is kept; more may be avoided, if it is new -/
theorem Sim.grow (s : Sim K Bx σ H e0) (kp : Kp (fun _ => False) H H') (hy : ∀ a, By a → H a ≠ none → Bx a) (hz : ∀ a, By a → H' a ≠ none) : Sim K By σ H' e0 := by
  have fa : ∀ {B}, Kp B H H' := kp.anti fun _ z => z.elim
  have an : ∀ a, Avo By σ e0 a → H a ≠ none → Avo Bx σ e0 a := fun a z n => z.elim .inl fun z => .inr (hy a z n)
  refine ⟨s.len, fun j d' h1 => ?_, fun j w' d' h1 => ?_, s.inj, hz⟩
  · obtain ⟨v, r1, r2⟩ := s.sh j d' h1
    exact ⟨v, r1, r2.go fa an⟩
  · obtain ⟨a, r1, r2, r3⟩ := s.ow j w' d' h1
    exact ⟨a, r1, fun q => r2 (hy a q (s.there ⟨j, w', d', h1, r1⟩)), r3.go fa an fun o q => kp.keep a o q fun z => z⟩
theorem map_get {i : Nat} {y : Sl} (h : (ds.map Sl.sh)[i]? = some y) : ∃ d, y = .sh d ∧ ds[i]? = some d := by
  rw [List.getElem?_map] at h
  cases z : ds[i]? with
  | none => rw [z] at h; cases h
  | some d => rw [z] at h; cases h; exact ⟨d, rfl, rfl⟩
theorem av_sh {a : Addr} (h : Av σ (ds.map Sl.sh) a) : False := by
  obtain ⟨i, w, d, h1, _⟩ := h
  obtain ⟨_, z, _⟩ := map_get h1
  cases z
/-- shared arguments -/
theorem Sim.args (rs : Reps K H B xs ds) (hb : ∀ a, B a → H a ≠ none) : Sim K B (xs.map some) H (ds.map .sh) := by
  refine ⟨by simp [rs.length], fun j d' h1 => ?_, fun j w' d' h1 => ?_, fun j k w' w'' d' d'' a h1 h2 h3 h4 => ?_, hb⟩
  · obtain ⟨d, z, y⟩ := map_get h1
    cases z
    obtain ⟨v, r1, r2⟩ := rs.getD y
    exact ⟨v, by rw [List.getElem?_map, r1]; rfl, r2.anti fun a z => z.elim (fun z => (av_sh z).elim) id⟩
  · obtain ⟨_, z, _⟩ := map_get h1
    cases z
  · obtain ⟨_, z, _⟩ := map_get h1
    cases z
/-- f(..), all arguments handed on -/
def xCall0 (n : Nat) (φ : XF) (g : En → Res (List D)) : XF := fun e => (g e).bind fun ds e1 => if ds.length = n then (match φ (ds.map .sh) with
  | .ok r _ => .ok r e1
  | .ex x => .ex x
  | .st => .st) else .st
theorem call0_run {n : Nat} {φ : XF} {g : En → Res (List D)} {Q : VK} (h : TD C W (xCall0 n φ g) σ H Q) : tCallS (spF C (List.replicate n false) φ) (WE W) (TDa C W g) σ H Q := by
  obtain ⟨e, Bx, s, q⟩ := h
  refine ⟨e, Bx, s, run_mono (bind_run q) (fun ds e1 q vs H1 p => ?_) fun _ z => z⟩
  split at q
  case isFalse => exact q.elim
  rename_i hl
  have hs : slP (List.replicate n false) ds = ds.map .sh := slP_all hl
  refine ⟨ds, Avo Bx σ e1, by rw [List.length_replicate, ← hl, p.r.length], by rw [List.length_replicate, hl], by rw [hs]; exact .args p.r fun a z => p.s.avo_there z, ?_⟩
  rw [hs]
  have none_wr : ∀ {B : Addr → Prop} a, Wr (vs.map some) (ds.map Sl.sh) a → B a := fun a z => (av_sh z.av).elim
  cases z : φ (ds.map .sh) with
  | st => rw [z] at q; exact q.elim
  | ex x =>
    rw [z] at q
    exact fun cls d H' r f => q cls d σ H' rfl r (p.fr.trans p.le (f.anti none_wr))
  | ok r ec =>
    rw [z] at q
    intro v H2 pc
    have k : Kp (fun _ => False) H1 H2 := pc.fr.anti none_wr
    refine q v H2 (Post.after_a p ⟨k.anti fun _ z => z.elim, .refl, ?_, pc.new⟩)
    obtain ⟨dd, fr⟩ := r
    have hi := pc.is
    have avc : ∀ a, Av (vs.map some) ec a → False := fun a z => av_sh (pc.le.av a z)
    cases fr with
    | false =>
      obtain ⟨sc, rp⟩ := hi
      exact ⟨p.s.grow k (fun _ z _ => z) fun a z => k.there a (p.s.bx a z), rp.anti fun a z => .inr z⟩
    | true =>
      obtain ⟨p', e, nb, sc, t⟩ := hi
      have np := pc.new rfl p' e
      refine ⟨p', e, fun z => nb (.inr z), p.s.grow k (fun a z n => ?_) fun a z => ?_, t.anti fun a z => ?_⟩
      · rcases z with z | z
        · exact z
        · rw [z] at n; exact absurd np n
      · rcases z with z | z
        · exact k.there a (p.s.bx a z)
        · rw [z]; exact sc.bx p' (.inr rfl)
      · rcases z with z | z | z
        · exact .inr (.inl (.inl z))
        · exact .inr (.inl (.inr z))
        · exact .inr (.inr z)
theorem ge_call0 {k n : Nat} {φ : XF} {x : Str} {np : Pos} {as : List Expr} {g : En → Res (List D)} (F : GF C X.prog X.w X.mg X.base k x (List.replicate n false) φ) (hK : X.K = C.K) (tk : Takes X W) (hr : Rm k X.A) (hg : Gl X x) (ha : GA C X W (a :: as) g) (hdb : (x == ("__debug__" : Str)) = false := by decide)
    (he : starEach (a :: as) X.env = (false, eval a X.env) :: starEach as X.env := by rfl) (hpl : (backTo pos (starEach as X.env)).any (·.1) = false := by rfl) : GE C X W (.Call (.Name x np) (a :: as) [] pos) (xCall0 n φ g) := by
  obtain ⟨f, fd, ps, Fk, hm, kp, b⟩ := F.ex
  rw [← hK] at Fk kp b
  exact pe_imp (pe_callG Fk hr hg hm kp b tk ha hdb he hpl) fun σ H Q h => call0_run h
/-- f(x, ..), x an own list that f writes, the others handed on -/
def xCallD (i n : Nat) (φ : XF) (g : En → Res (List D)) : XF := fun e => if (ownL i e).isSome then (g e).bind fun ds e1 => (if ds.length = n then (match ownL i e1 with
  | some d0 => (match φ (.ow true (.list d0) :: ds.map .sh) with
    | .ok r (.ow true (.list d1) :: _) => .ok r (e1.set i (.ow true (.list d1)))
    | .ok _ _ => .st
    | .ex x => .ex x
    | .st => .st)
  | none => .st) else .st) else .st
theorem callD_run {i n : Nat} {φ : XF} {g : En → Res (List D)} {Q : VK} (h : TD C W (xCallD i n φ g) σ H Q) : tCallS (spF C (true :: List.replicate n false) φ) (WE W) (tCons (tVar i) (TDa C W g)) σ H Q := by
  obtain ⟨e, Bx, s, q⟩ := h
  unfold xCallD at q
  split at q
  case isFalse => exact q.elim
  rename_i hs
  obtain ⟨d00, hd0⟩ := Option.isSome_iff_exists.mp hs
  obtain ⟨p0, _, _, z2, _, _⟩ := s.own hd0
  refine ⟨_, z2, e, Bx, s, run_mono (bind_run q) (fun ds e1 q vs H1 p => ?_) fun _ z => z⟩
  split at q
  case isFalse => exact q.elim
  rename_i hl
  cases w : ownL i e1 with
  | none => rw [w] at q; exact q.elim
  | some d0 =>
    rw [w] at q
    dsimp only at q
    obtain ⟨p', xs, w1, w2, w3, w4⟩ := p.s.own w
    rw [z2] at w2; cases w2
    have hsl : slP (true :: List.replicate n false) (.list d0 :: ds) = .ow true (.list d0) :: ds.map .sh := by simp only [slP]; rw [slP_all hl]
    have wrp : Wr σ e1 p0 := ⟨i, _, w1, z2⟩
    obtain ⟨q0, r1, r2, r3⟩ := p.s.ow i true _ w1
    rw [z2] at r1; cases r1
    -- the callee's own address
    have wc : ∀ a, Av ((V.ref p0 :: vs).map some) (Sl.ow true (.list d0) :: ds.map Sl.sh) a → a = p0 := fun a ⟨j, w', d', y1, y2⟩ => by
      cases j with
      | zero => simp at y2; exact y2.symm
      | succ j =>
        rw [List.getElem?_cons_succ] at y1
        obtain ⟨_, y, _⟩ := map_get y1
        cases y
    have cw : Wr ((V.ref p0 :: vs).map some) (Sl.ow true (.list d0) :: ds.map Sl.sh) p0 := ⟨0, _, rfl, rfl⟩
    have sc : Sim C.K (fun a => Avo Bx σ e1 a ∧ a ≠ p0) ((V.ref p0 :: vs).map some) H1 (.ow true (.list d0) :: ds.map .sh) := by
      have an : ∀ a, Avo (fun a => Avo Bx σ e1 a ∧ a ≠ p0) ((V.ref p0 :: vs).map some) (Sl.ow true (.list d0) :: ds.map Sl.sh) a → Avo Bx σ e1 a := fun a z => z.elim (fun z => by rw [wc a z]; exact .inl wrp.av) fun z => z.1
      refine ⟨by simp [p.r.length], fun j d' y => ?_, fun j w' d' y => ?_, fun j k w' w'' d' d'' a y1 y2 y3 y4 => ?_, fun a z => p.s.avo_there z.1⟩
      · cases j with
        | zero => cases y
        | succ j =>
          rw [List.getElem?_cons_succ] at y
          obtain ⟨d, z, y⟩ := map_get y
          cases z
          obtain ⟨v, t1, t2⟩ := p.r.getD y
          exact ⟨v, by rw [List.map_cons, List.getElem?_cons_succ, List.getElem?_map, t1]; rfl, t2.anti an⟩
      · cases j with
        | zero => cases y; exact ⟨p0, rfl, fun z => z.2 rfl, r3.anti an⟩
        | succ j =>
          rw [List.getElem?_cons_succ] at y
          obtain ⟨_, z, _⟩ := map_get y
          cases z
      · cases j with
        | zero =>
          cases k with
          | zero => rfl
          | succ k =>
            rw [List.getElem?_cons_succ] at y2
            obtain ⟨_, z, _⟩ := map_get y2
            cases z
        | succ j =>
          rw [List.getElem?_cons_succ] at y1
          obtain ⟨_, z, _⟩ := map_get y1
          cases z
    refine ⟨.list d0 :: ds, _, by simp [p.r.length, hl], by simp [hl], by rw [hsl]; exact sc, ?_⟩
    rw [hsl]
    have kc : ∀ {H'}, Fr ((V.ref p0 :: vs).map some) (Sl.ow true (.list d0) :: ds.map Sl.sh) H1 H' → Kp (· = p0) H1 H' := fun f => f.anti fun a z => wc a z.av
    have kf : ∀ {H'}, Kp (· = p0) H1 H' → Fr σ e1 H1 H' := fun k => k.anti fun a z => by rw [z]; exact wrp
    cases z : φ (.ow true (.list d0) :: ds.map .sh) with
    | st => rw [z] at q; exact q.elim
    | ex x =>
      rw [z] at q
      exact fun cls d H' r f => q cls d σ H' rfl r (p.fr.trans p.le (kf (kc f)))
    | ok r ec =>
      rw [z] at q
      intro v H2 pc
      have k := kc pc.fr
      split at q
      case h_2 => exact q.elim
      case h_3 => rename_i y; cases y
      case h_4 => rename_i y; cases y
      rename_i r' d1 er y
      cases y
      refine q v H2 (Post.after_a p ?_)
      have hi := pc.is
      have key : ∀ By : Addr → Prop, (∀ a, By a → H1 a ≠ none → Bx a) → ∀ Bc : Addr → Prop, Sim C.K Bc ((V.ref p0 :: vs).map some) H2 (.ow true (.list d1) :: er) → (∀ a, By a → Bc a ∨ a = p0) → (∀ a, Avo Bx σ e1 a → a ≠ p0 → Bc a) → ¬ By p0 → (∀ a, By a → H2 a ≠ none) →
          Sim C.K By σ H2 (e1.set i (.ow true (.list d1))) ∧ ∀ a, Av σ (e1.set i (.ow true (.list d1))) a → Av σ e1 a := fun By hy Bc sx h1 h2 nb hz => by
        obtain ⟨q1, t1, t2, t3⟩ := sx.ow 0 true _ rfl
        cases t1
        refine p.s.turn w1 z2 k hy hz nb (t3.anti fun a z => ?_)
        by_cases ea : a = p0
        · subst ea; exact .inl ⟨0, true, _, rfl, rfl⟩
        · rcases z with z | z
          · exact .inr (h2 a (.inl z) ea)
          · rcases h1 a z with z | z
            · exact .inr z
            · exact absurd z ea
      have wrl : ∀ {e2 : En}, (∀ a, Av σ e2 a → Av σ e1 a) → e2 = e1.set i (.ow true (.list d1)) → Le σ e1 e2 := fun {e2} av he => ⟨fun a ⟨j, d', y1, y2⟩ => by
        subst he
        rcases set_look y1 with ⟨rfl, _⟩ | ⟨_, y⟩
        · exact ⟨j, _, w1, y2⟩
        · exact ⟨j, d', y, y2⟩, av⟩
      obtain ⟨dd, fr⟩ := r
      cases fr with
      | false =>
        obtain ⟨sx, rp⟩ := hi
        obtain ⟨s2, av⟩ := key Bx (fun _ z _ => z) _ sx (fun a z => by
          by_cases ea : a = p0
          · exact .inr ea
          · exact .inl ⟨.inr z, ea⟩) (fun a z n => ⟨z, n⟩) r2 fun a z => k.there a (p.s.bx a z)
        refine .mk0 (kf k) (wrl av rfl) s2 (rp.anti fun a z => ?_)
        by_cases ea : a = p0
        · subst ea; exact .inl ⟨0, true, _, rfl, rfl⟩
        · exact .inr ⟨z.imp (av a) id, ea⟩
      | true =>
        obtain ⟨p', ev, nb, sx, t⟩ := hi
        have np := pc.new rfl p' ev
        have ne : p' ≠ p0 := fun z => by rw [z, w3] at np; cases np
        obtain ⟨s2, av⟩ := key (ad Bx p') (fun a z n => z.elim id fun z => absurd np (by rw [z] at n; exact n)) _ sx (fun a z => by
          by_cases ea : a = p0
          · exact .inr ea
          · exact .inl (z.imp (fun z => ⟨.inr z, ea⟩) id)) (fun a z n => .inl ⟨z, n⟩) (fun z => z.elim r2 fun z => ne z.symm) fun a z => z.elim (fun z => k.there a (p.s.bx a z)) fun z => by rw [z]; exact sx.bx p' (.inr rfl)
        refine ⟨kf k, wrl av rfl, ⟨p', ev, fun z => p.s.bx p' z np, s2, t.anti fun a z => ?_⟩, pc.new⟩
        by_cases ea : a = p0
        · subst ea; exact .inl ⟨0, true, _, rfl, rfl⟩
        · rcases z with z | z | z
          · exact .inr (.inl ⟨.inl (av a z), ea⟩)
          · exact .inr (.inl ⟨.inr z, ea⟩)
          · exact .inr (.inr z)
theorem ge_callD {i k n : Nat} {φ : XF} {x y : Str} {np yp : Pos} {as : List Expr} {g : En → Res (List D)} (F : GF C X.prog X.w X.mg X.base k x (true :: List.replicate n false) φ) (hK : X.K = C.K) (tk : Takes X W) (hr : Rm k X.A) (hg : Gl X x) (hN : X.N[i]? = some y) (hv : Vis X.env.scope y) (ha : GA C X W as g) (hdb : (x == ("__debug__" : Str)) = false := by decide)
    (hd : (y == ("__debug__" : Str)) = false := by decide) (hcd : (y == ("__classdict__" : Str)) = false := by decide)
    (he : starEach (.Name y yp :: as) X.env = (false, eval (.Name y yp) X.env) :: starEach as X.env := by rfl) (hpl : (backTo pos (starEach as X.env)).any (·.1) = false := by rfl) : GE C X W (.Call (.Name x np) (.Name y yp :: as) [] pos) (xCallD i n φ g) := by
  obtain ⟨f, fd, ps, Fk, hm, kp, b⟩ := F.ex
  rw [← hK] at Fk kp b
  exact pe_imp (pe_callG Fk hr hg hm kp b tk (pa_cons (pe_var hN hv hd hcd) ha he) hdb he hpl) fun σ H Q h => callD_run h
end
end G
end L2
namespace L2
namespace G
open PySem PySem.Spec PyProof.Rows
section
variable {C : Ct} {X : Cx} {W : WX} {K : PySem.W.Frag} {Bx By S B : Addr → Prop} {io : List Nat} {σ σ' σ1 σ2 : L2.St} {H H' H1 H2 : Hp} {e0 e' e1 e2 : En} {e a b : Expr} {pos : Pos} {d d' : D} {v : V} {st : Stmt} {r : Rs} {p : Addr} {ds : List D} {xs : List V}

/-! ### operations -/
abbrev si (i : Int) : Option Rs := some ⟨.int i, false⟩
abbrev sb (b : Bool) : Option Rs := some ⟨.bool b, false⟩
theorem post_i {i : Int} (s : Sim K Bx σ H e0) : Post K Bx σ H e0 ⟨.int i, false⟩ e0 (.int i) H := .same s (.int i)
theorem post_b {i : Bool} (s : Sim K Bx σ H e0) : Post K Bx σ H e0 ⟨.bool i, false⟩ e0 (.bl i) H := .same s (.bl i)
theorem post_s {i : Str} (s : Sim K Bx σ H e0) : Post K Bx σ H e0 ⟨.str i, false⟩ e0 (.str i) H := .same s (.str i)
theorem post_n (s : Sim K Bx σ H e0) : Post K Bx σ H e0 ⟨.none, false⟩ e0 .non H := .same s .non
/-- ints under a condition -/
def fII (c : Int → Int → Bool) (g : Int → Int → Int) : D → D → Option Rs
  | .int i, .int j => if c i j then si (g i j) else none
  | _, _ => none
theorem okI {c : Int → Int → Bool} {g : Int → Int → Int} {Cd : Int → Int → Prop} (hc : ∀ i j, c i j = true → Cd i j) : OpOk C (fII c g) (rI Cd fun i j => .int (g i j)) := by
  intro Bx σ H e0 d1 d2 v1 v2 z Q hz s o1 o2 q
  unfold fII at hz
  split at hz
  · rename_i i j
    split at hz
    · rename_i h
      cases hz
      exact ⟨i, j, o1.int, o2.int, hc i j h, q _ _ (post_i s)⟩
    · cases hz
  · cases hz
theorem okI0 {g : Int → Int → Int} : OpOk C (fII (fun _ _ => true) g) (rI0 fun i j => .int (g i j)) := by
  intro Bx σ H e0 d1 d2 v1 v2 z Q hz s o1 o2 q
  unfold fII at hz
  split at hz
  · rename_i i j
    cases hz
    exact ⟨i, j, o1.int, o2.int, q _ _ (post_i s)⟩
  · cases hz
def fIB (g : Int → Int → Bool) : D → D → Option Rs
  | .int i, .int j => sb (g i j)
  | _, _ => none
theorem okB {g : Int → Int → Bool} : OpOk C (fIB g) (rI0 fun i j => .bl (g i j)) := by
  intro Bx σ H e0 d1 d2 v1 v2 z Q hz s o1 o2 q
  unfold fIB at hz
  split at hz
  · rename_i i j
    cases hz
    exact ⟨i, j, o1.int, o2.int, q _ _ (post_b s)⟩
  · cases hz
theorem OpOk.or {F G : D → D → Option Rs} {r r' : R2} (h : OpOk C F r) (h' : OpOk C G r') : OpOk C (fun x y => match F x y with | some z => some z | none => G x y) (fun x y H Q => r x y H Q ∨ r' x y H Q) := by
  intro Bx σ H e0 d1 d2 v1 v2 z Q hz s o1 o2 q
  cases w : F d1 d2 with
  | some y => simp only [w] at hz; cases hz; exact .inl (h Bx σ H e0 d1 d2 v1 v2 _ Q w s o1 o2 q)
  | none => simp only [w] at hz; exact .inr (h' Bx σ H e0 d1 d2 v1 v2 z Q hz s o1 o2 q)
theorem OpOk.eq {F G : D → D → Option Rs} {r : R2} (h : OpOk C F r) (e : ∀ x y, G x y = F x y) : OpOk C G r := by
  intro Bx σ H e0 d1 d2 v1 v2 z Q hz
  rw [e] at hz
  exact h Bx σ H e0 d1 d2 v1 v2 z Q hz
/-! + -/
def fCatL : D → D → Option Rs
  | .list xs, .list ys => if xs.length + ys.length ≤ most then some ⟨.list (xs ++ ys), true⟩ else none
  | _, _ => none
theorem okCatL : OpOk C fCatL rCat := by
  intro Bx σ H e0 d1 d2 v1 v2 z Q hz s o1 o2 q
  unfold fCatL at hz
  split at hz
  · split at hz
    · rename_i hl
      cases hz
      obtain ⟨a, xs, rfl, h1, r1⟩ := o1.list
      obtain ⟨b, ys, rfl, h2, r2⟩ := o2.list
      exact ⟨a, b, xs, ys, rfl, rfl, h1, h2, by rw [r1.length, r2.length]; exact most_ok hl, fun p hp => q _ _ (.newL s hp (r1.append r2))⟩
    · cases hz
  · cases hz
def fCatT : D → D → Option Rs
  | .tuple xs, .tuple ys => if xs.length + ys.length ≤ most then some ⟨.tuple (xs ++ ys), false⟩ else none
  | _, _ => none
theorem Opd.tupRep {K : PySem.W.Frag} (o : Opd K H B v (.tuple ds)) : Rep K H B v (.tuple ds) := by
  cases o with
  | rep r => exact r
  | top t => cases t
theorem okCatT : OpOk C fCatT (rCatA C.K) := by
  intro Bx σ H e0 d1 d2 v1 v2 z Q hz s o1 o2 q
  unfold fCatT at hz
  split at hz
  · split at hz
    · rename_i ds1 ds2 hl
      cases hz
      have p1 := o1.tupRep
      have p2 := o2.tupRep
      obtain ⟨a, xs, rfl, h1, r1⟩ := o1.tuple
      obtain ⟨b, ys, rfl, h2, r2⟩ := o2.tuple
      refine ⟨a, b, xs, ys, rfl, rfl, h1, h2, by rw [r1.length, r2.length]; exact most_ok hl, fun h => ?_, fun _ h => ?_, fun _ _ p hp => q _ _ (.newT s hp (r1.append r2))⟩
      · subst h; cases r1; exact q _ _ (.same s p2)
      · subst h; cases r2; rw [List.append_nil] at q; exact q _ _ (.same s p1)
    · cases hz
  · cases hz
def fCatS : D → D → Option Rs
  | .str x, .str y => if x.length + y.length ≤ most then some ⟨.str (x ++ y), false⟩ else none
  | _, _ => none
theorem okCatS : OpOk C fCatS (fun x y H Q => ∃ i j, x = .str i ∧ y = .str j ∧ i.length + j.length ≤ sizeLine ∧ Q (.str (i ++ j)) H) := by
  intro Bx σ H e0 d1 d2 v1 v2 z Q hz s o1 o2 q
  unfold fCatS at hz
  split at hz
  · split at hz
    · rename_i hl
      cases hz
      exact ⟨_, _, o1.str, o2.str, most_ok hl, q _ _ (post_s s)⟩
    · cases hz
  · cases hz
def fAdd : D → D → Option Rs
  | .int i, .int j => si (i + j)
  | .str x, .str y => if x.length + y.length ≤ most then some ⟨.str (x ++ y), false⟩ else none
  | .list xs, .list ys => if xs.length + ys.length ≤ most then some ⟨.list (xs ++ ys), true⟩ else none
  | .tuple xs, .tuple ys => if xs.length + ys.length ≤ most then some ⟨.tuple (xs ++ ys), false⟩ else none
  | _, _ => none
abbrev rAddA (K : PySem.W.Frag) : R2 := fun x y H Q => rI0 (fun i j => .int (i + j)) x y H Q ∨ ((∃ i j, x = .str i ∧ y = .str j ∧ i.length + j.length ≤ sizeLine ∧ Q (.str (i ++ j)) H) ∨ (rCat x y H Q ∨ rCatA K x y H Q))
theorem op_addA : OpR X (binaryOp .Add) (rAddA X.K) := op_add.or (op_add_str.or (op_cat.or op_catA))
theorem ok_add : OpOk C fAdd (rAddA C.K) := (okI0.or (okCatS.or (okCatL.or okCatT))).eq fun x y => by
  cases x <;> cases y <;> first | rfl | (simp only [fAdd, fII, fCatS, fCatL, fCatT]; try (split <;> rfl))
/-! the others, of ints -/
def fSub := fII (fun _ _ => true) fun i j => i - j
def cMul (i j : Int) : Bool := decide (i.natAbs.log2 + j.natAbs.log2 < 1000000)
def fMulI := fII cMul fun i j => i * j
def cDiv (_i j : Int) : Bool := decide (0 < j) && decide (j.natAbs.log2 < 9000)
def fDiv := fII cDiv fun i j => i / j
def cMod (_i j : Int) : Bool := decide (0 < j)
def fMod := fII cMod fun i j => i % j
def cSh (i j : Int) : Bool := decide (0 ≤ j) && decide (j ≤ 1000000) && decide (i.natAbs < 2 ^ 64)
def fShl := fII cSh fun i j => i * 2 ^ j.toNat
def cShr (_i j : Int) : Bool := decide (0 ≤ j)
def fShr := fII cShr fun i j => i / 2 ^ j.toNat
def fAnd := fII (fun _ _ => true) Builtin.bitAnd
def fOr := fII (fun _ _ => true) Builtin.bitOr
def fXor := fII (fun _ _ => true) Builtin.bitXor
theorem ok_sub : OpOk C fSub (rI0 fun i j => .int (i - j)) := okI0
theorem ok_div : OpOk C fDiv (rI CDivW fun i j => .int (i / j)) := okI fun i j h => by simpa [cDiv, CDivW] using h
theorem ok_mod : OpOk C fMod (rI (fun _ j => 0 < j) fun i j => .int (i % j)) := okI fun i j h => by simpa [cMod] using h
theorem ok_shl : OpOk C fShl (rI CPow fun i j => .int (i * 2 ^ j.toNat)) := okI fun i j h => by
  simp only [cSh, Bool.and_eq_true, decide_eq_true_eq] at h
  exact ⟨h.1.1, h.1.2, h.2⟩
theorem ok_shr : OpOk C fShr (rI (fun _ j => 0 ≤ j) fun i j => .int (i / 2 ^ j.toNat)) := okI fun i j h => by simpa [cShr] using h
theorem ok_and : OpOk C fAnd (rI0 fun i j => .int (Builtin.bitAnd i j)) := okI0
theorem ok_or : OpOk C fOr (rI0 fun i j => .int (Builtin.bitOr i j)) := okI0
theorem ok_xor : OpOk C fXor (rI0 fun i j => .int (Builtin.bitXor i j)) := okI0
/-! * : ints, a list times an int -/
def fRepL : D → D → Option Rs
  | .list xs, .int k => if k ≤ 100000 && -100000 ≤ k && xs.length * k.toNat ≤ most then some ⟨.list (List.replicate k.toNat xs).flatten, true⟩ else none
  | _, _ => none
theorem Reps.flat (rs : Reps K H B xs ds) : ∀ k : Nat, Reps K H B (List.replicate k xs).flatten (List.replicate k ds).flatten
  | 0 => .nil
  | k + 1 => by rw [List.replicate_succ, List.replicate_succ, List.flatten_cons, List.flatten_cons]; exact rs.append (rs.flat k)
theorem okRepL : OpOk C fRepL rRep := by
  intro Bx σ H e0 d1 d2 v1 v2 z Q hz s o1 o2 q
  unfold fRepL at hz
  split at hz
  · rename_i ds k
    split at hz
    · rename_i hl
      cases hz
      simp only [Bool.and_eq_true, decide_eq_true_eq] at hl
      obtain ⟨⟨h1, h2⟩, h3⟩ := hl
      obtain ⟨a, xs, rfl, hq, r1⟩ := o1.list
      have z1 : -(2 ^ 63) ≤ k := by omega
      have z2 : k < 2 ^ 63 := by omega
      exact ⟨a, k, xs, rfl, o2.int, hq, z1, z2, by rw [r1.length]; exact most_ok h3, fun p hp => q _ _ (.newL s hp (r1.flat _))⟩
    · cases hz
  · cases hz
def fMul : D → D → Option Rs
  | .int i, .int j => if cMul i j then si (i * j) else none
  | .list xs, .int k => if k ≤ 100000 && -100000 ≤ k && xs.length * k.toNat ≤ most then some ⟨.list (List.replicate k.toNat xs).flatten, true⟩ else none
  | _, _ => none
abbrev rMulA : R2 := fun x y H Q => rI CMulW (fun i j => .int (i * j)) x y H Q ∨ rRep x y H Q
theorem op_mulA : OpR X (binaryOp .Mult) rMulA := op_mulW.or op_rep
theorem ok_mul : OpOk C fMul rMulA := ((okI (c := cMul) fun i j h => (by simpa [cMul, CMulW] using h : CMulW i j)).or okRepL).eq fun x y => by
  cases x <;> cases y <;> first | rfl | (simp only [fMul, fII, fRepL]; try (split <;> rfl))
/-! comparisons -/
def fLt := fIB fun i j => decide (i < j)
def fLe := fIB fun i j => decide (i ≤ j)
def fGt := fIB fun i j => decide (j < i)
def fGe := fIB fun i j => decide (j ≤ i)
mutual
theorem Rep.dp : ∀ {d : D} {v : V}, d.canLay0 = true → Rep K H B v d → Dp K H v d
  | .none, _, _, h => by cases h; exact .non
  | .bool b, _, _, h => by cases h; exact .bl b
  | .int i, _, _, h => by cases h; exact .int i
  | .str x, _, _, h => by cases h; exact .str x
  | .list ds, _, c, h => by cases h with | lst q _ r => exact .lst (.inl (.inl q)) (Reps.dp (by simpa [PyData.canLay0] using c) r)
  | .tuple ds, _, c, h => by cases h with | tup q r => exact .tup q (Reps.dp (by simpa [PyData.canLay0] using c) r)
  | .dict kvs, _, c, _ => by simp [PyData.canLay0] at c
theorem Reps.dp : ∀ {ds : List D} {vs : List V}, PyData.canLayAll0 ds = true → Reps K H B vs ds → DpAll K H vs ds
  | [], _, _, h => by cases h; exact .nil
  | d :: ds, _, c, h => by
    simp only [PyData.canLayAll0, Bool.and_eq_true] at c
    cases h with | cons a b => exact .cons (Rep.dp c.1 a) (Reps.dp c.2 b)
end
/-- == on data -/
def fEq : D → D → Option Rs := fun x y => if SeqAt.shaped x && SeqAt.shaped y then sb (PyData.eqv x y) else none
def fNe : D → D → Option Rs := fun x y => if SeqAt.shaped x && SeqAt.shaped y then sb (!PyData.eqv x y) else none
theorem ok_eq : OpOk C fEq (rEqD C.K) := by
  intro Bx σ H e0 d1 d2 v1 v2 z Q hz s o1 o2 q
  unfold fEq at hz
  split at hz
  · rename_i h
    cases hz
    simp only [Bool.and_eq_true] at h
    exact ⟨d1, d2, o1.rdd.dp (SeqAt.canLay_of_shaped h.1), o2.rdd.dp (SeqAt.canLay_of_shaped h.2), h.1, h.2, q _ _ (post_b s)⟩
  · cases hz
theorem ok_ne : OpOk C fNe (rNeD C.K) := by
  intro Bx σ H e0 d1 d2 v1 v2 z Q hz s o1 o2 q
  unfold fNe at hz
  split at hz
  · rename_i h
    cases hz
    simp only [Bool.and_eq_true] at h
    exact ⟨d1, d2, o1.rdd.dp (SeqAt.canLay_of_shaped h.1), o2.rdd.dp (SeqAt.canLay_of_shaped h.2), h.1, h.2, q _ _ (post_b s)⟩
  · cases hz
/-- is None -/
def isNone : D → Bool | .none => true | _ => false
def fIsN : D → D → Option Rs := fun x y => match y with | .none => sb (isNone x) | _ => none
def fNotN : D → D → Option Rs := fun x y => match y with | .none => sb (!isNone x) | _ => none
theorem isNone_opd (o : Opd K H B v d) : decide (v = .non) = isNone d := by
  cases o with
  | rep r => cases r <;> rfl
  | top t => cases t <;> rfl
theorem ok_isN : OpOk C fIsN (fun x y H Q => y = .non ∧ Q (.bl (decide (x = .non))) H) := by
  intro Bx σ H e0 d1 d2 v1 v2 z Q hz s o1 o2 q
  cases d2 <;> try (cases hz; done)
  cases hz
  exact ⟨o2.none, by rw [isNone_opd o1]; exact q _ _ (post_b s)⟩
theorem ok_notN : OpOk C fNotN (fun x y H Q => y = .non ∧ Q (.bl (!decide (x = .non))) H) := by
  intro Bx σ H e0 d1 d2 v1 v2 z Q hz s o1 o2 q
  cases d2 <;> try (cases hz; done)
  cases hz
  exact ⟨o2.none, by rw [isNone_opd o1]; exact q _ _ (post_b s)⟩
/-- in a list, a tuple, of flat things; a sign in a text -/
def flatD : D → Bool
  | .none => true | .bool _ => true | .int _ => true | .str _ => true | _ => false
theorem flat_rep (r : Rep K H B v d) (h : flatD d = true) : flatV v = true := by
  cases r <;> first | rfl | cases h
theorem eqv_rep {v' : V} (r : Rep K H B v d) (r' : Rep K H B v' d') (h : flatD d = true) (h' : flatD d' = true) : eqV v v' = PyData.eqv d d' := by
  cases r <;> cases r' <;> first | rfl | cases h | cases h'
theorem inv_reps {x : V} {y : D} (rs : Reps K H B xs ds) (r : Rep K H B x y) (h : flatD y = true) (ha : ds.all flatD = true) : inV x xs = ds.any (fun z => PyData.eqv z y) ∧ xs.all flatV = true := by
  induction ds generalizing xs with
  | nil => cases rs; exact ⟨rfl, rfl⟩
  | cons d ds ih =>
    cases rs with
    | cons a b =>
      simp only [List.all_cons, Bool.and_eq_true] at ha
      obtain ⟨z1, z2⟩ := ih b ha.2
      refine ⟨?_, by simp [flat_rep a ha.1, z2]⟩
      unfold inV at z1 ⊢
      rw [List.any_cons, List.any_cons, z1, eqv_rep a r ha.1 h]
def inD (y : D) : List D → Bool := fun ds => ds.any fun z => PyData.eqv z y
def fIn (neg : Bool) : D → D → Option Rs := fun x y => match y with
  | .list ds => if flatD x && ds.all flatD then sb (if neg then !inD x ds else inD x ds) else none
  | .tuple ds => if flatD x && ds.all flatD then sb (if neg then !inD x ds else inD x ds) else none
  | .str z => match x with | .str w => if w.cps.toList.length = 1 then sb (if neg then !decide (w.cps.toList.headD 0 ∈ z.cps.toList) else decide (w.cps.toList.headD 0 ∈ z.cps.toList)) else none | _ => none
  | _ => none
abbrev rInA (K : PySem.W.Frag) (neg : Bool) : R2 := fun x y H Q => rIn K neg x y H Q ∨ ∃ (c : Nat) (z : Str), x = .str ⟨#[c]⟩ ∧ y = .str z ∧ Q (.bl (if neg then !decide (c ∈ z.cps.toList) else decide (c ∈ z.cps.toList))) H
theorem op_inA : OpR X (compareOp .In) (rInA X.K false) := op_in_seq.or op_in_sign
theorem op_notInA : OpR X (compareOp .NotIn) (rInA X.K true) := op_notIn_seq.or op_notIn_sign
theorem one_sign {w : Str} (h : w.cps.toList.length = 1) : w = ⟨#[w.cps.toList.headD 0]⟩ := by
  obtain ⟨⟨l⟩⟩ := w
  cases l with
  | nil => simp at h
  | cons a t => cases t with | nil => rfl | cons _ _ => simp at h
theorem ok_in {neg : Bool} : OpOk C (fIn neg) (rInA C.K neg) := by
  intro Bx σ H e0 d1 d2 v1 v2 z Q hz s o1 o2 q
  unfold fIn at hz
  split at hz
  · rename_i ds
    split at hz
    · rename_i h
      cases hz
      simp only [Bool.and_eq_true] at h
      obtain ⟨a, xs, rfl, hq, rs⟩ := o2.list
      have r1 : Rep C.K H (Avo Bx σ e0) v1 d1 := by
        cases o1 with
        | rep r => exact r
        | top t => cases t <;> cases h.1
      obtain ⟨z1, z2⟩ := inv_reps rs r1 h.1 h.2
      refine .inl ⟨a, xs, rfl, .inl (.inl (.inl hq)), flat_rep r1 h.1, z2, ?_⟩
      rw [z1]; exact q _ _ (post_b s)
    · cases hz
  · rename_i ds
    split at hz
    · rename_i h
      cases hz
      simp only [Bool.and_eq_true] at h
      obtain ⟨a, xs, rfl, hq, rs⟩ := o2.tuple
      have r1 : Rep C.K H (Avo Bx σ e0) v1 d1 := by
        cases o1 with
        | rep r => exact r
        | top t => cases t <;> cases h.1
      obtain ⟨z1, z2⟩ := inv_reps rs r1 h.1 h.2
      refine .inl ⟨a, xs, rfl, .inr hq, flat_rep r1 h.1, z2, ?_⟩
      rw [z1]; exact q _ _ (post_b s)
    · cases hz
  · split at hz
    · split at hz
      · rename_i h
        cases hz
        refine .inr ⟨_, _, ?_, o2.str, q _ _ (post_b s)⟩
        rw [o1.str]; exact congrArg V.str (one_sign h)
      · cases hz
    · cases hz
  · cases hz
/-! an item -/
def fIx : D → D → Option Rs := fun x y => match y with
  | .int i => (match x with
    | .list ds => (atI ds i).map fun d => ⟨d, false⟩
    | .tuple ds => (atI ds i).map fun d => ⟨d, false⟩
    | .str z => if z.length ≤ most then (atI z.cps.toList i).map fun c => ⟨.str ⟨#[c]⟩, false⟩ else none
    | _ => none)
  | _ => none
theorem at_reps {i : Int} (rs : Reps K H B xs ds) (h : atI ds i = some d) : ∃ v, atI xs i = some v ∧ Rep K H B v d := by
  unfold atI at h ⊢
  rw [rs.length]
  cases z : ixN ds.length i with
  | none => rw [z] at h; cases h
  | some j =>
    rw [z] at h
    exact rs.getD h
theorem ok_ix : OpOk C fIx (rIx C.K) := by
  intro Bx σ H e0 d1 d2 v1 v2 z Q hz s o1 o2 q
  unfold fIx at hz
  split at hz
  · rename_i i
    split at hz
    · rename_i ds
      cases w : atI ds i with
      | none => rw [w] at hz; cases hz
      | some d =>
        rw [w] at hz; cases hz
        obtain ⟨a, xs, rfl, hq, rs⟩ := o1.list
        obtain ⟨v, h1, h2⟩ := at_reps rs w
        exact .inl ⟨a, xs, i, v, rfl, o2.int, .inl (.inl hq), h1, q _ _ (.same s h2)⟩
    · rename_i ds
      cases w : atI ds i with
      | none => rw [w] at hz; cases hz
      | some d =>
        rw [w] at hz; cases hz
        obtain ⟨a, xs, rfl, hq, rs⟩ := o1.tuple
        obtain ⟨v, h1, h2⟩ := at_reps rs w
        exact .inr (.inl ⟨a, xs, i, v, rfl, o2.int, hq, h1, q _ _ (.same s h2)⟩)
    · rename_i t
      split at hz
      · rename_i hl
        cases w : atI t.cps.toList i with
        | none => rw [w] at hz; cases hz
        | some c =>
          rw [w] at hz; cases hz
          exact .inr (.inr ⟨t, i, c, o1.str, o2.int, most_ok hl, w, q _ _ (post_s s)⟩)
      · cases hz
    · cases hz
  · cases hz
/-! one operand -/
def fNeg : D → Option Rs | .int i => si (-i) | _ => none
def fInv : D → Option Rs | .int i => si (Builtin.bitNot i) | _ => none
theorem ok_neg : UnOk C fNeg (rU fun i => .int (-i)) := by
  intro Bx σ H e0 d1 v1 z Q hz s o q
  cases d1 <;> try (cases hz; done)
  cases hz
  exact ⟨_, o.int, q _ _ (post_i s)⟩
theorem ok_inv : UnOk C fInv (rU fun i => .int (Builtin.bitNot i)) := by
  intro Bx σ H e0 d1 v1 z Q hz s o q
  cases d1 <;> try (cases hz; done)
  cases hz
  exact ⟨_, o.int, q _ _ (post_i s)⟩
end
end G
end L2
namespace L2
namespace G
open PySem PySem.Spec PyProof.Rows
section
variable {C : Ct} {X : Cx} {W : WX} {K : PySem.W.Frag} {Bx By S B : Addr → Prop} {io : List Nat} {σ σ' σ1 σ2 : L2.St} {H H' H1 H2 : Hp} {e0 e' e1 e2 : En} {e a b : Expr} {pos : Pos} {d d' : D} {v : V} {st : Stmt} {r : Rs} {p : Addr} {ds : List D} {xs : List V}

/-! ### built-in functions: one operand, two operands -/
theorem ge_b1 {id : String} {x : Str} {np : Pos} {rr : List V → Hp → VK → Prop} {F : D → Option Rs} {g : En → Res D} (hc : CallR X (.builtin id) rr) (ho : UnOk C F fun v => rr [v]) (hv : bootBuiltins x = some (.builtin id)) (hg : Gl X x) (hm : X.mg x = none) (ha : GO C X W a g) (hn : x ≠ "__name__" := by decide) (hdb : (x == ("__debug__" : Str)) = false := by decide)
    (hs : starEach [a] X.env = (false, eval a X.env) :: starEach [] X.env := by rfl) (hpl : (backTo pos (starEach [] X.env)).any (·.1) = false := by rfl) : GE C X W (.Call (.Name x np) [a] [] pos) (xOne F g) :=
  pe_imp (pe_callB hc hg hm hv (pa_cons ha pa_nil hs) hn hdb hs hpl) fun _ _ _ h => un_run ho h
theorem ge_ty1 {T : String} {x : Str} {np : Pos} {rr : List V → Hp → VK → Prop} {F : D → Option Rs} {g : En → Res D} (hc : CallR X (.type T) rr) (ho : UnOk C F fun v => rr [v]) (hv : bootBuiltins x = some (.type T)) (hg : Gl X x) (hm : X.mg x = none) (ha : GO C X W a g) (hn : x ≠ "__name__" := by decide) (hdb : (x == ("__debug__" : Str)) = false := by decide)
    (hs : starEach [a] X.env = (false, eval a X.env) :: starEach [] X.env := by rfl) (hpl : (backTo pos (starEach [] X.env)).any (·.1) = false := by rfl) : GE C X W (.Call (.Name x np) [a] [] pos) (xOne F g) :=
  pe_imp (pe_callTy hc hg hm hv (pa_cons ha pa_nil hs) hn hdb hs hpl) fun _ _ _ h => un_run ho h
theorem ge_b2 {id : String} {x : Str} {np : Pos} {rr : List V → Hp → VK → Prop} {F : D → D → Option Rs} {l : Lf} {g : En → Res D} (hc : CallR X (.builtin id) rr) (ho : OpOk C F fun v w => rr [v, w]) (hv : bootBuiltins x = some (.builtin id)) (hg : Gl X x) (hm : X.mg x = none) (ha : GL C X W a l) (hb : GO C X W b g) (hn : x ≠ "__name__" := by decide) (hdb : (x == ("__debug__" : Str)) = false := by decide)
    (hs : starEach [a, b] X.env = (false, eval a X.env) :: starEach [b] X.env := by rfl) (hs2 : starEach [b] X.env = (false, eval b X.env) :: starEach [] X.env := by rfl) (hpl : (backTo pos (starEach [b] X.env)).any (·.1) = false := by rfl) : GE C X W (.Call (.Name x np) [a, b] [] pos) (xOp F l g) :=
  pe_imp (pe_callB hc hg hm hv (pa_cons ha (pa_cons hb pa_nil hs2) hs) hn hdb hs hpl) fun _ _ _ h => op_run ho h
theorem UnOk.or {F G : D → Option Rs} {r r' : V → Hp → VK → Prop} (h : UnOk C F r) (h' : UnOk C G r') : UnOk C (fun x => match F x with | some z => some z | none => G x) (fun x H Q => r x H Q ∨ r' x H Q) := by
  intro Bx σ H e0 d1 v1 z Q hz s o1 q
  cases w : F d1 with
  | some y => simp only [w] at hz; cases hz; exact .inl (h Bx σ H e0 d1 v1 _ Q w s o1 q)
  | none => simp only [w] at hz; exact .inr (h' Bx σ H e0 d1 v1 z Q hz s o1 q)
/-! len -/
def fLen : D → Option Rs
  | .list ds => si ds.length
  | .tuple ds => si ds.length
  | .str x => if x.length ≤ most then si x.length else none
  | .dict ks => si ks.length
  | _ => none
theorem Opd.dict {ks : List (D × D)} (o : Opd K H B v (.dict ks)) : ∃ a kvs, v = .ref a ∧ H a = some (.dK kvs) ∧ RepK K H B kvs ks := by
  cases o with
  | rep r => cases r with | dct q _ r => exact ⟨_, _, rfl, q, r⟩
  | top t => cases t with | dct q r => exact ⟨_, _, rfl, q, r⟩
theorem RepK.length {kvs : List (Key × V)} {ks : List (D × D)} (r : RepK K H B kvs ks) : kvs.length = ks.length := by
  induction ks generalizing kvs with
  | nil => cases r; rfl
  | cons d ds ih => cases r with | cons a b => simp [ih b]
abbrev rLn (K : PySem.W.Frag) : List V → Hp → VK → Prop := fun xs H Q => (∃ x n, xs = [x] ∧ LenV K x H n ∧ Q (.int n) H) ∨ ∃ a kvs, xs = [V.ref a] ∧ H a = some (.dK kvs) ∧ Q (.int kvs.length) H
theorem cr_len : CallR X (.builtin "len") (rLn X.K) := call_len.or call_lenD
theorem ok_len : UnOk C fLen fun v => rLn C.K [v] := by
  intro Bx σ H e0 d1 v1 z Q hz s o q
  unfold fLen at hz
  split at hz
  · cases hz
    obtain ⟨a, xs, rfl, hq, rs⟩ := o.list
    exact .inl ⟨_, _, rfl, .inl ⟨xs, .inl (.inl hq), rs.length.symm⟩, q _ _ (post_i s)⟩
  · cases hz
    obtain ⟨a, xs, rfl, hq, rs⟩ := o.tuple
    exact .inl ⟨_, _, rfl, .inr ⟨xs, hq, rs.length.symm⟩, q _ _ (post_i s)⟩
  · split at hz
    · rename_i hl
      cases hz
      have := o.str; subst this
      exact .inl ⟨_, _, rfl, ⟨most_ok hl, rfl⟩, q _ _ (post_i s)⟩
    · cases hz
  · cases hz
    obtain ⟨a, xs, rfl, hq, rs⟩ := o.dict
    exact .inr ⟨_, _, rfl, hq, by rw [rs.length]; exact q _ _ (post_i s)⟩
  · cases hz
theorem ge_len {np : Pos} {g : En → Res D} (hK : X.K = C.K) (hg : Gl X "len") (hm : X.mg "len" = none) (ha : GO C X W a g)
    (hs : starEach [a] X.env = (false, eval a X.env) :: starEach [] X.env := by rfl) (hpl : (backTo pos (starEach [] X.env)).any (·.1) = false := by rfl) : GE C X W (.Call (.Name "len" np) [a] [] pos) (xOne fLen g) :=
  ge_b1 (rr := rLn C.K) (by rw [← hK]; exact cr_len) ok_len boot_len hg hm ha (hs := hs) (hpl := hpl)
/-! sum, any, all, max, min of lists -/
def intsD : List D → Option (List Int)
  | [] => some []
  | .int i :: ds => (intsD ds).map (i :: ·)
  | _ => none
def boolsD : List D → Option (List Bool)
  | [] => some []
  | .bool i :: ds => (boolsD ds).map (i :: ·)
  | _ => none
theorem reps_ints : ∀ {ds : List D} {xs : List V} {ns : List Int}, intsD ds = some ns → Reps K H B xs ds → xs = ns.map V.int
  | [], _, _, h, r => by cases r; cases h; rfl
  | .int i :: ds, _, _, h, r => by
    cases r with
    | cons a b =>
      cases a
      unfold intsD at h
      cases z : intsD ds with
      | none => rw [z] at h; cases h
      | some ns => rw [z] at h; cases h; rw [reps_ints z b]; rfl
  | .none :: _, _, _, h, _ => by cases h
  | .bool _ :: _, _, _, h, _ => by cases h
  | .str _ :: _, _, _, h, _ => by cases h
  | .list _ :: _, _, _, h, _ => by cases h
  | .tuple _ :: _, _, _, h, _ => by cases h
  | .dict _ :: _, _, _, h, _ => by cases h
theorem reps_bools : ∀ {ds : List D} {xs : List V} {ns : List Bool}, boolsD ds = some ns → Reps K H B xs ds → xs = ns.map V.bl
  | [], _, _, h, r => by cases r; cases h; rfl
  | .bool i :: ds, _, _, h, r => by
    cases r with
    | cons a b =>
      cases a
      unfold boolsD at h
      cases z : boolsD ds with
      | none => rw [z] at h; cases h
      | some ns => rw [z] at h; cases h; rw [reps_bools z b]; rfl
  | .none :: _, _, _, h, _ => by cases h
  | .int _ :: _, _, _, h, _ => by cases h
  | .str _ :: _, _, _, h, _ => by cases h
  | .list _ :: _, _, _, h, _ => by cases h
  | .tuple _ :: _, _, _, h, _ => by cases h
  | .dict _ :: _, _, _, h, _ => by cases h
def fSum : D → Option Rs
  | .list ds => (intsD ds).map fun ns => ⟨.int ns.sum, false⟩
  | _ => none
def fAny : D → Option Rs
  | .list ds => (boolsD ds).map fun ns => ⟨.bool (ns.any id), false⟩
  | _ => none
def fAll : D → Option Rs
  | .list ds => (boolsD ds).map fun ns => ⟨.bool (ns.all id), false⟩
  | _ => none
def topI : List Int → Int
  | [] => 0
  | i :: is => is.foldl (fun a b => if a < b then b else a) i
def lowI : List Int → Int
  | [] => 0
  | i :: is => is.foldl (fun a b => if b < a then b else a) i
def fMaxL : D → Option Rs
  | .list ds => (intsD ds).bind fun ns => if ns.isEmpty then none else si (topI ns)
  | _ => none
def fMinL : D → Option Rs
  | .list ds => (intsD ds).bind fun ns => if ns.isEmpty then none else si (lowI ns)
  | _ => none
theorem ok_sum : UnOk C fSum fun v => rSum C.K [v] := by
  intro Bx σ H e0 d1 v1 z Q hz s o q
  cases d1 <;> try (cases hz; done)
  rename_i ds
  simp only [fSum] at hz
  cases w : intsD ds with
  | none => rw [w] at hz; cases hz
  | some ns =>
    rw [w] at hz; cases hz
    obtain ⟨a, xs, rfl, hq, rs⟩ := o.list
    obtain rfl := reps_ints w rs
    exact ⟨a, ns, rfl, .inl (.inl hq), q _ _ (post_i s)⟩
theorem ok_any : UnOk C fAny fun v => rAny C.K [v] := by
  intro Bx σ H e0 d1 v1 z Q hz s o q
  cases d1 <;> try (cases hz; done)
  rename_i ds
  simp only [fAny] at hz
  cases w : boolsD ds with
  | none => rw [w] at hz; cases hz
  | some ns =>
    rw [w] at hz; cases hz
    obtain ⟨a, xs, rfl, hq, rs⟩ := o.list
    obtain rfl := reps_bools w rs
    exact ⟨a, ns, rfl, .inl (.inl hq), q _ _ (post_b s)⟩
theorem ok_all : UnOk C fAll fun v => rAll C.K [v] := by
  intro Bx σ H e0 d1 v1 z Q hz s o q
  cases d1 <;> try (cases hz; done)
  rename_i ds
  simp only [fAll] at hz
  cases w : boolsD ds with
  | none => rw [w] at hz; cases hz
  | some ns =>
    rw [w] at hz; cases hz
    obtain ⟨a, xs, rfl, hq, rs⟩ := o.list
    obtain rfl := reps_bools w rs
    exact ⟨a, ns, rfl, .inl (.inl hq), q _ _ (post_b s)⟩
theorem topI_aux : ∀ (is : List Int) (i : Int), let t := is.foldl (fun a b => if a < b then b else a) i; i ≤ t ∧ (∀ y ∈ is, y ≤ t) ∧ (t = i ∨ t ∈ is)
  | [], i => by simp
  | j :: is, i => by
    rw [List.foldl_cons]
    by_cases c : i < j
    · rw [if_pos c]
      obtain ⟨h1, h2, h3⟩ := topI_aux is j
      refine ⟨by omega, fun y m => ?_, ?_⟩
      · rcases List.mem_cons.mp m with rfl | m
        · exact h1
        · exact h2 y m
      · rcases h3 with h3 | h3
        · exact .inr (List.mem_cons.mpr (.inl h3))
        · exact .inr (List.mem_cons_of_mem _ h3)
    · rw [if_neg c]
      obtain ⟨h1, h2, h3⟩ := topI_aux is i
      refine ⟨h1, fun y m => ?_, ?_⟩
      · rcases List.mem_cons.mp m with rfl | m
        · omega
        · exact h2 y m
      · rcases h3 with h3 | h3
        · exact .inl h3
        · exact .inr (List.mem_cons_of_mem _ h3)
theorem lowI_aux : ∀ (is : List Int) (i : Int), let t := is.foldl (fun a b => if b < a then b else a) i; t ≤ i ∧ (∀ y ∈ is, t ≤ y) ∧ (t = i ∨ t ∈ is)
  | [], i => by simp
  | j :: is, i => by
    rw [List.foldl_cons]
    by_cases c : j < i
    · rw [if_pos c]
      obtain ⟨h1, h2, h3⟩ := lowI_aux is j
      refine ⟨by omega, fun y m => ?_, ?_⟩
      · rcases List.mem_cons.mp m with rfl | m
        · exact h1
        · exact h2 y m
      · rcases h3 with h3 | h3
        · exact .inr (List.mem_cons.mpr (.inl h3))
        · exact .inr (List.mem_cons_of_mem _ h3)
    · rw [if_neg c]
      obtain ⟨h1, h2, h3⟩ := lowI_aux is i
      refine ⟨h1, fun y m => ?_, ?_⟩
      · rcases List.mem_cons.mp m with rfl | m
        · omega
        · exact h2 y m
      · rcases h3 with h3 | h3
        · exact .inl h3
        · exact .inr (List.mem_cons_of_mem _ h3)
theorem topI_mem {ns : List Int} (h : ns ≠ []) : topI ns ∈ ns := by
  cases ns with
  | nil => exact absurd rfl h
  | cons i is =>
    obtain ⟨_, _, h3⟩ := topI_aux is i
    rcases h3 with h3 | h3
    · exact List.mem_cons.mpr (.inl h3)
    · exact List.mem_cons_of_mem _ h3
theorem topI_le {ns : List Int} : ∀ y ∈ ns, y ≤ topI ns := by
  cases ns with
  | nil => intro y m; cases m
  | cons i is =>
    obtain ⟨h1, h2, _⟩ := topI_aux is i
    intro y m
    rcases List.mem_cons.mp m with rfl | m
    · exact h1
    · exact h2 y m
theorem lowI_mem {ns : List Int} (h : ns ≠ []) : lowI ns ∈ ns := by
  cases ns with
  | nil => exact absurd rfl h
  | cons i is =>
    obtain ⟨_, _, h3⟩ := lowI_aux is i
    rcases h3 with h3 | h3
    · exact List.mem_cons.mpr (.inl h3)
    · exact List.mem_cons_of_mem _ h3
theorem lowI_le {ns : List Int} : ∀ y ∈ ns, lowI ns ≤ y := by
  cases ns with
  | nil => intro y m; cases m
  | cons i is =>
    obtain ⟨h1, h2, _⟩ := lowI_aux is i
    intro y m
    rcases List.mem_cons.mp m with rfl | m
    · exact h1
    · exact h2 y m
theorem ok_maxL : UnOk C fMaxL fun v => rMax C.K [v] := by
  intro Bx σ H e0 d1 v1 z Q hz s o q
  cases d1 <;> try (cases hz; done)
  rename_i ds
  simp only [fMaxL] at hz
  cases w : intsD ds with
  | none => rw [w] at hz; cases hz
  | some ns =>
    rw [w] at hz
    simp only [Option.bind_some] at hz
    split at hz
    · cases hz
    · rename_i he
      cases hz
      obtain ⟨a, xs, rfl, hq, rs⟩ := o.list
      obtain rfl := reps_ints w rs
      have hn : ns ≠ [] := fun z => he (by rw [z]; rfl)
      refine ⟨a, ns, rfl, .inl (.inl hq), List.length_pos_iff.mpr hn, fun m h1 h2 => ?_⟩
      have : m = topI ns := by
        have := topI_le m h1
        have := h2 _ (topI_mem hn)
        omega
      rw [this]; exact q _ _ (post_i s)
theorem ok_minL : UnOk C fMinL fun v => rMin C.K [v] := by
  intro Bx σ H e0 d1 v1 z Q hz s o q
  cases d1 <;> try (cases hz; done)
  rename_i ds
  simp only [fMinL] at hz
  cases w : intsD ds with
  | none => rw [w] at hz; cases hz
  | some ns =>
    rw [w] at hz
    simp only [Option.bind_some] at hz
    split at hz
    · cases hz
    · rename_i he
      cases hz
      obtain ⟨a, xs, rfl, hq, rs⟩ := o.list
      obtain rfl := reps_ints w rs
      have hn : ns ≠ [] := fun z => he (by rw [z]; rfl)
      refine ⟨a, ns, rfl, .inl (.inl hq), List.length_pos_iff.mpr hn, fun m h1 h2 => ?_⟩
      have : m = lowI ns := by
        have := lowI_le m h1
        have := h2 _ (lowI_mem hn)
        omega
      rw [this]; exact q _ _ (post_i s)
/-! abs, int, max and min of two -/
def fAbs : D → Option Rs | .int i => si (if i < 0 then -i else i) | _ => none
theorem ok_abs : UnOk C fAbs fun v => (fun xs H Q => ∃ i, xs = [V.int i] ∧ Q (.int (if i < 0 then -i else i)) H : List V → Hp → VK → Prop) [v] := by
  intro Bx σ H e0 d1 v1 z Q hz s o q
  cases d1 <;> try (cases hz; done)
  cases hz
  exact ⟨_, by rw [o.int], q _ _ (post_i s)⟩
def fInt : D → Option Rs | .int i => si i | .bool k => si (if k then 1 else 0) | _ => none
theorem ok_int : UnOk C fInt fun v => (fun xs H Q => (∃ i, xs = [.int i] ∧ Q (.int i) H) ∨ ∃ k, xs = [.bl k] ∧ Q (.int (if k then 1 else 0)) H : List V → Hp → VK → Prop) [v] := by
  intro Bx σ H e0 d1 v1 z Q hz s o q
  cases d1 <;> try (cases hz; done)
  · cases hz
    exact .inr ⟨_, by rw [o.bool], q _ _ (post_i s)⟩
  · cases hz
    exact .inl ⟨_, by rw [o.int], q _ _ (post_i s)⟩
def fMax2 := fII (fun _ _ => true) fun i j => if j > i then j else i
def fMin2 := fII (fun _ _ => true) fun i j => if j < i then j else i
theorem ok_max2 : OpOk C fMax2 fun v w => (fun xs H Q => ∃ i j, xs = [V.int i, V.int j] ∧ Q (.int (if j > i then j else i)) H : List V → Hp → VK → Prop) [v, w] := by
  intro Bx σ H e0 d1 d2 v1 v2 z Q hz s o1 o2 q
  obtain ⟨i, j, rfl, rfl, h⟩ := okI0 (C := C) (g := fun i j => if j > i then j else i) Bx σ H e0 d1 d2 v1 v2 z Q hz s o1 o2 q
  exact ⟨i, j, rfl, h⟩
theorem ok_min2 : OpOk C fMin2 fun v w => (fun xs H Q => ∃ i j, xs = [V.int i, V.int j] ∧ Q (.int (if j < i then j else i)) H : List V → Hp → VK → Prop) [v, w] := by
  intro Bx σ H e0 d1 d2 v1 v2 z Q hz s o1 o2 q
  obtain ⟨i, j, rfl, rfl, h⟩ := okI0 (C := C) (g := fun i j => if j < i then j else i) Bx σ H e0 d1 d2 v1 v2 z Q hz s o1 o2 q
  exact ⟨i, j, rfl, h⟩
/-! list(..), tuple(..), str(int) -/
def fList : D → Option Rs
  | .list ds => some ⟨.list ds, true⟩
  | .tuple ds => some ⟨.list ds, true⟩
  | _ => none
theorem ok_list : UnOk C fList fun v => (fun xs H Q => ∃ p ys, xs = [.ref p] ∧ (SqL C.K H p ys ∨ SqT C.K H p ys) ∧ ∀ l, H l = none → Q (.ref l) (upd H l (.lst ys)) : List V → Hp → VK → Prop) [v] := by
  intro Bx σ H e0 d1 v1 z Q hz s o q
  cases d1 <;> try (cases hz; done)
  · cases hz
    obtain ⟨a, xs, rfl, hq, rs⟩ := o.list
    exact ⟨a, xs, rfl, .inl (.inl (.inl hq)), fun l hl => q _ _ (.newL s hl rs)⟩
  · cases hz
    obtain ⟨a, xs, rfl, hq, rs⟩ := o.tuple
    exact ⟨a, xs, rfl, .inr hq, fun l hl => q _ _ (.newL s hl rs)⟩
def fTuple : D → Option Rs
  | .list ds => some ⟨.tuple ds, false⟩
  | .tuple ds => some ⟨.tuple ds, false⟩
  | _ => none
theorem ok_tuple : UnOk C fTuple fun v => (fun xs H Q => ∃ p ys, xs = [.ref p] ∧ ((SqL C.K H p ys ∧ ∀ l, H l = none → Q (.ref l) (upd H l (.tup ys))) ∨ (SqT C.K H p ys ∧ Q (.ref p) H)) : List V → Hp → VK → Prop) [v] := by
  intro Bx σ H e0 d1 v1 z Q hz s o q
  cases d1 <;> try (cases hz; done)
  · cases hz
    obtain ⟨a, xs, rfl, hq, rs⟩ := o.list
    exact ⟨a, xs, rfl, .inl ⟨.inl (.inl hq), fun l hl => q _ _ (.newT s hl rs)⟩⟩
  · cases hz
    have rp := o.tupRep
    obtain ⟨a, xs, rfl, hq, rs⟩ := o.tuple
    exact ⟨a, xs, rfl, .inr ⟨hq, q _ _ (.same s rp)⟩⟩
def fStrI : D → Option Rs | .int i => if i.natAbs.log2 < 1920 then some ⟨.str (toString i), false⟩ else none | _ => none
theorem ok_strI : UnOk C fStrI fun v => (fun xs H Q => ∃ i, xs = [V.int i] ∧ i.natAbs.log2 < 1920 ∧ Q (.str (toString i)) H : List V → Hp → VK → Prop) [v] := by
  intro Bx σ H e0 d1 v1 z Q hz s o q
  cases d1 <;> try (cases hz; done)
  simp only [fStrI] at hz
  split at hz
  · rename_i hl
    cases hz
    exact ⟨_, by rw [o.int], hl, q _ _ (post_s s)⟩
  · cases hz
/-! isinstance(x, T) -/
def tyN : D → String
  | .none => "NoneType" | .bool _ => "bool" | .int _ => "int" | .str _ => "str" | .list _ => "list" | .tuple _ => "tuple" | .dict _ => "dict"
inductive Ty where | int | bool | str | list | tuple | dict
def Ty.nm : Ty → String
  | .int => "int" | .bool => "bool" | .str => "str" | .list => "list" | .tuple => "tuple" | .dict => "dict"
def isT : Ty → D → Bool
  | .int, .int _ => true | .int, .bool _ => true | .bool, .bool _ => true | .str, .str _ => true | .list, .list _ => true | .tuple, .tuple _ => true | .dict, .dict _ => true | _, _ => false
theorem kit_tab : ∀ (t : Ty) (d : D), kitB (tyN d) t.nm = some (isT t d) := by
  intro t d
  cases t <;> cases d <;> (show kitB _ _ = some _; simp only [tyN, Ty.nm, isT]; decide +kernel)
theorem tyx_rep (o : Opd K H B v d) : TyX K H v (.type (tyN d)) := by
  have r := o.rdd
  cases r with
  | non => exact .base .non
  | bl b => exact .base (.bl b)
  | int i => exact .base (.int i)
  | str i => exact .base (.str i)
  | lst q _ _ => exact .base (.lst q)
  | dct q _ _ => exact .base (.dK q)
  | tup q _ =>
    rcases q with (q | ⟨o, q⟩) | q
    · exact .base (.tup q)
    · exact .fTuple q
    · obtain ⟨ob, _, _, h1, h2, _⟩ := q
      exact .kTuple h1 h2
theorem pe_tyv {T : String} {x : Str} {np : Pos} (hg : Gl X x) (hm : X.mg x = none) (hv : bootBuiltins x = some (.type T)) (hn : x ≠ "__name__" := by decide) (hdb : (x == ("__debug__" : Str)) = false := by decide) : PE X (.Name x np) (tC (.ty T)) :=
  ⟨fun _ s σ H Q I h => ld_blt I hg hm hv ⟨.ty T, H, I, rfl, h⟩ hn hdb⟩
def fIs (t : Ty) : D → Option Rs := fun d => sb (isT t d)
theorem ge_isi {np tp : Pos} {x : Str} {g : En → Res D} (t : Ty) (hK : X.K = C.K) (hg : Gl X "isinstance") (hm : X.mg "isinstance" = none) (hgT : Gl X x) (hmT : X.mg x = none) (hvT : bootBuiltins x = some (.type t.nm)) (ha : GO C X W a g) (hn : x ≠ "__name__" := by decide) (hdb : (x == ("__debug__" : Str)) = false := by decide)
    (hs : starEach [a, .Name x tp] X.env = (false, eval a X.env) :: starEach [.Name x tp] X.env := by rfl) (hs2 : starEach [.Name x tp] X.env = (false, eval (.Name x tp) X.env) :: starEach [] X.env := by rfl) (hpl : (backTo pos (starEach [.Name x tp] X.env)).any (·.1) = false := by rfl) :
    GE C X W (.Call (.Name "isinstance" np) [a, .Name x tp] [] pos) (xOne (fIs t) g) := by
  refine pe_imp (pe_callB call_isi hg hm PyProof.Rows.boot_isinstance (pa_cons ha (pa_cons (pe_tyv hgT hmT hvT hn hdb) pa_nil hs2) hs) (by decide) (by decide) hs hpl) fun σ H Q h => ?_
  refine un_run (F := fIs t) (r := fun v H Q => rIsi X.K [v, .ty t.nm] H Q) ?_ h
  intro Bx σ H e0 d1 v1 z Q hz s o q
  cases hz
  exact ⟨v1, _, _, _, _, rfl, .ty _, by rw [hK]; exact tyx_rep o, kit_ty (kit_tab t d1), q _ _ (post_b s)⟩
end
end G
end L2
namespace L2
namespace G
open PySem PySem.Spec PyProof.Rows
section
variable {C : Ct} {X : Cx} {W : WX} {K : PySem.W.Frag} {Bx By S B : Addr → Prop} {io : List Nat} {σ σ' σ1 σ2 : L2.St} {H H' H1 H2 : Hp} {e0 e' e1 e2 : En} {e a b : Expr} {pos : Pos} {d d' : D} {v : V} {st : Stmt} {r : Rs} {p : Addr} {ds : List D} {xs : List V}

/-! ### slices -/
def TDp (C : Ct) (W : WX) (f : En → Res (Option Int)) : TO := fun σ H Q => ∃ e Bx, Sim C.K Bx σ H e ∧ (f e).run (fun b e' => ∀ H', PostT C.K Bx σ H e e' H' → Q b H') (EX C W σ H e)
abbrev GP (C : Ct) (X : Cx) (W : WX) (e : Option Expr) (f : En → Res (Option Int)) : Prop := PO X e (TDp C W f)
theorem po_imp {e : Option Expr} {t t' : TO} (h : PO X e t) (i : ∀ σ H Q, t' σ H Q → t σ H Q) : PO X e t' := ⟨fun pins s σ H Q I q => h.run pins s σ H Q I (i σ H Q q)⟩
def pNo : En → Res (Option Int) := fun e => .ok none e
def pAt (g : En → Res D) : En → Res (Option Int) := fun e => (g e).bind fun d e1 => match d with | .int i => .ok (some i) e1 | _ => .st
theorem gp_no : GP C X W none pNo := po_imp po_none fun σ H Q ⟨e, Bx, s, q⟩ => q H ⟨.refl, .refl, s⟩
theorem gp_at {g : En → Res D} (h : GO C X W e g) : GP C X W (some e) (pAt g) := po_imp (po_some h) fun σ H Q ⟨e, Bx, s, q⟩ => ⟨e, Bx, s, run_mono (bind_run q) (fun d e1 q v H1 p => by
  cases d with
  | int i => exact ⟨i, p.o.int, q H1 ⟨p.fr, p.le, p.s⟩⟩
  | _ => exact q.elim) fun _ z => z⟩
def cutD (ds : List D) (lo hi : Option Int) : List D := (ds.drop (HT.sIx ds.length 0 lo)).take (HT.sIx ds.length ds.length hi - HT.sIx ds.length 0 lo)
def fSl : D → Option Int → Option Int → Option Rs
  | .list ds, lo, hi => some ⟨.list (cutD ds lo hi), true⟩
  | .tuple ds, lo, hi => some ⟨.tuple (cutD ds lo hi), false⟩
  | .str x, lo, hi => if x.length ≤ most then some ⟨.str (cutS x lo hi), false⟩ else none
  | _, _, _ => none
abbrev rSlAll (K : PySem.W.Frag) : V → Option Int → Option Int → Hp → VK → Prop := fun x lo hi H Q => rSlL K x lo hi H Q ∨ (rSlA K x lo hi H Q ∨ rSlS x lo hi H Q)
theorem sl_all : SlR X (rSlAll X.K) := sl_list.or (sl_tupA.or sl_str)
theorem Reps.cut {lo hi : Option Int} (rs : Reps K H B xs ds) : Reps K H B (cutV xs lo hi) (cutD ds lo hi) := by
  unfold cutV cutD
  rw [rs.length]
  exact (rs.drop _).take _
theorem ok_sl {lo hi : Option Int} {v1 : V} {d1 : D} {z : Rs} {Q : VK} (hz : fSl d1 lo hi = some z) (s : Sim C.K Bx σ H e0) (o : Opd C.K H (Avo Bx σ e0) v1 d1) (q : ∀ v H', Post C.K Bx σ H e0 z e0 v H' → Q v H') : rSlAll C.K v1 lo hi H Q := by
  unfold fSl at hz
  split at hz
  · cases hz
    obtain ⟨a, xs, rfl, hq, rs⟩ := o.list
    exact .inl ⟨a, xs, rfl, .inl (.inl hq), fun p hp => q _ _ (.newL s hp rs.cut)⟩
  · cases hz
    have rp := o.tupRep
    obtain ⟨a, xs, rfl, hq, rs⟩ := o.tuple
    refine .inr (.inl ⟨a, xs, rfl, hq, fun w => ?_, fun _ p hp => q _ _ (.newT s hp rs.cut)⟩)
    have : ∀ {ds : List D}, xs.length = ds.length → cutD ds lo hi = ds := fun {ds} hl => by
      unfold cutD
      rw [← hl, w.1, w.2, List.drop_zero, Nat.sub_zero, hl, List.take_length]
    rw [this rs.length] at q
    exact q _ _ (.same s rp)
  · split at hz
    · rename_i hl
      cases hz
      exact .inr (.inr ⟨_, o.str, most_ok hl, q _ _ (post_s s)⟩)
    · cases hz
  · cases hz
/-- a base, a middle that leaves no value, then k of the base -/
def xMid {α : Type} (l : Lf) (g : En → Res α) (k : D → α → En → Res Rs) : XF := match l with
  | .ex f => fun e => (f e).bind fun r e1 => (g e1).bind fun y e2 => k r.d y e2
  | .br i => fun e => (xB i e).bind fun _ e1 => (g e1).bind fun y e2 => (xB i e2).bind fun x e3 => k x y e3
def pTwo (f g : En → Res (Option Int)) : En → Res (Option Int × Option Int) := fun e => (f e).bind fun x e1 => (g e1).bind fun y e2 => .ok (x, y) e2
def xSlc (l : Lf) (f g : En → Res (Option Int)) : XF := xMid l (pTwo f g) fun d p e => match fSl d p.1 p.2 with | some r => .ok r e | none => .st
theorem Post.after_2t {r : Rs} {e3 : En} {H3 : Hp} (h : PostT K Bx σ H e0 e1 H1) (h' : PostT K Bx σ H1 e1 e2 H2) (h2 : Post K Bx σ H2 e2 r e3 v H3) : Post K Bx σ H e0 r e3 v H3 :=
  Post.after_t h (Post.after_t h' h2)
theorem ge_slice {l : Lf} {lo hi : Option Expr} {f g : En → Res (Option Int)} {p2 : Pos} (hK : X.K = C.K) (ha : GL C X W a l) (hl : GP C X W lo f) (hh : GP C X W hi g) : GE C X W (.Subscript a (.Slice lo hi none p2) pos) (xSlc l f g) := by
  refine pe_imp (pe_slice sl_all ha hl hh) fun σ H Q ⟨e, Bx, s, q⟩ => ?_
  rw [hK]
  cases l with
  | ex F =>
    refine ⟨e, Bx, s, run_mono (bind_run q) (fun r e1 q v H1 p1 => ?_) fun _ z => z⟩
    have q := bind_run q
    have q := bind_run q
    refine ⟨e1, Bx, p1.s, run_mono q (fun x e2 q H2 p2 => ?_) fun _ z => EX.after z p1.fr p1.le⟩
    have q := bind_run q
    refine ⟨e2, Bx, p2.s, run_mono q (fun y e3 q H3 p3 => ?_) fun _ z => EX.after (EX.after z p1.fr p1.le) p2.fr p2.le⟩
    have q' : ((match fSl r.d x y with | some r => (.ok r e3 : Res Rs) | none => .st)).run (fun r e' => ∀ v H', Post C.K Bx σ H e r e' v H' → Q v H') (EX C W σ H e) := q
    cases z : fSl r.d x y with
    | none => rw [z] at q'; exact q'.elim
    | some w =>
      rw [z] at q'
      exact ok_sl z p3.s (.rep (rep_after (rep_after p1.rp p2.fr p2.le) p3.fr p3.le)) fun v H4 p4 => q' v H4 (p1.after (Post.after_2t p2 p3 p4))
  | br i =>
    obtain ⟨d, v, _, hv, _, q⟩ := look_run s q
    refine ⟨v, hv, ?_⟩
    have q := bind_run q
    have q := bind_run q
    refine ⟨e, Bx, s, run_mono q (fun x e2 q H2 p2 => ?_) fun _ z => z⟩
    have q := bind_run q
    refine ⟨e2, Bx, p2.s, run_mono q (fun y e3 q H3 p3 => ?_) fun _ z => EX.after z p2.fr p2.le⟩
    have q' : ((xB i e3).bind fun d e4 => (match fSl d x y with | some r => (.ok r e4 : Res Rs) | none => .st)).run (fun r e' => ∀ v H', Post C.K Bx σ H e r e' v H' → Q v H') (EX C W σ H e) := q
    obtain ⟨d', v', _, hv', o', q'⟩ := look_run p3.s q'
    rw [hv] at hv'; cases hv'
    cases z : fSl d' x y with
    | none => rw [z] at q'; exact q'.elim
    | some w =>
      rw [z] at q'
      exact ok_sl z p3.s o' fun v H4 p4 => q' v H4 (Post.after_2t p2 p3 p4)
/-! xs[::-1] of a list -/
def fRev : D → Option Rs
  | .list ds => some ⟨.list ds.reverse, true⟩
  | _ => none
theorem ge_rev {g : En → Res D} {k : Nat} {p1 p2 p3 : Pos} (hK : X.K = C.K) (h : GO C X W a g) : GE C X W (.Subscript a (.Slice none none (some (.UnaryOp .USub (.Constant (.int 1) k p1) p2)) p3) pos) (xOne fRev g) := by
  refine pe_imp (pe_revL h) fun σ H Q q => ?_
  refine un_run (F := fRev) (r := fun x H1 Q => ∃ a xs, x = .ref a ∧ SqL X.K H1 a xs ∧ ∀ p, H1 p = none → Q (.ref p) (upd H1 p (.lst xs.reverse))) ?_ q
  intro Bx σ H e0 d1 v1 z Q hz s o q
  cases d1 <;> try (cases hz; done)
  cases hz
  obtain ⟨a, xs, rfl, hq, rs⟩ := o.list
  exact ⟨a, xs, rfl, .inl (.inl hq), fun p hp => q _ _ (.newL s hp rs.reverse)⟩

/-! ### a value's truth -/
def truD : D → Option Bool
  | .none => some false
  | .bool b => some b
  | .int i => some (i != 0)
  | .str y => if y.length ≤ most then some ((y.length : Int) != 0) else none
  | .list ds => some (!ds.isEmpty)
  | .tuple ds => some (!ds.isEmpty)
  | .dict ks => some (!ks.isEmpty)
theorem tru_rep {k : Bool} (h : truD d = some k) (o : Opd K H B v d) : TruV K v H k := by
  cases d with
  | none => cases h; rw [o.none]; rfl
  | bool b => cases h; rw [o.bool]; rfl
  | int i => cases h; rw [o.int]; rfl
  | str y =>
    simp only [truD] at h
    split at h
    · rename_i hl
      cases h
      rw [o.str]
      exact ⟨most_ok hl, rfl⟩
    · cases h
  | list ds =>
    cases h
    obtain ⟨a, xs, rfl, hq, rs⟩ := o.list
    exact .inl ⟨xs, .inl (.inl hq), by cases rs <;> rfl⟩
  | tuple ds =>
    cases h
    obtain ⟨a, xs, rfl, hq, rs⟩ := o.tuple
    exact .inr (.inl ⟨xs, hq, by cases rs <;> rfl⟩)
  | dict ks =>
    cases h
    obtain ⟨a, xs, rfl, hq, rs⟩ := o.dict
    exact .inr (.inr ⟨xs, hq, by cases rs <;> rfl⟩)
def tTru (g : En → Res D) : En → Res Bool := fun e => (g e).bind fun d e1 => match truD d with | some b => .ok b e1 | none => .st
theorem gt_tru {g : En → Res D} (hK : X.K = C.K) (h : GO C X W a g) (he : ∀ whole, isTrue a X.env whole = (do let v ← whole; standAt a.pos; holding [v] (truthy v)) := by intro _; rfl) : GT C X W a (tTru g) := by
  refine pt_imp (pt_truth h he) fun σ H Q ⟨e, Bx, s, q⟩ => ⟨e, Bx, s, run_mono (bind_run q) (fun d e1 q v H1 p => ?_) fun _ z => z⟩
  cases z : truD d with
  | none => rw [z] at q; exact q.elim
  | some k => rw [z] at q; exact ⟨k, by rw [hK]; exact tru_rep z p.o, q H1 ⟨p.fr, p.le, p.s⟩⟩

/-! ### a op b op c -/
def xChn (F G : D → D → Option Rs) (f g : XF) (h : En → Res D) : XF := fun e => (f e).bind fun x e1 => (g e1).bind fun y e2 => match F x.d y.d with
  | some ⟨.bool true, false⟩ => (h e2).bind fun w e3 => (match G y.d w with | some r => .ok r e3 | none => .st)
  | some ⟨.bool false, false⟩ => .ok ⟨.bool false, false⟩ e2
  | _ => .st
theorem chain_run {F G : D → D → Option Rs} {r r' : R2} {f g : XF} {h : En → Res D} (ho : OpOk C F r) (ho' : OpOk C G r') {Q : VK} (q : TD C W (xChn F G f g h) σ H Q) : tChain r r' (TD C W f) (TD C W g) (TDo C W h) σ H Q := by
  obtain ⟨e, Bx, s, q⟩ := q
  refine ⟨e, Bx, s, run_mono (bind_run q) (fun x e1 q v1 H1 p1 => ?_) fun _ z => z⟩
  refine ⟨e1, Bx, p1.s, run_mono (bind_run q) (fun y e2 q v2 H2 p2 => ?_) fun _ z => EX.after z p1.fr p1.le⟩
  have p12 := p1.after p2
  cases z : F x.d y.d with
  | none => rw [z] at q; exact q.elim
  | some w =>
    rw [z] at q
    obtain ⟨wd, wf⟩ := w
    cases wd with
    | bool k =>
      cases wf with
      | true => cases k <;> exact q.elim
      | false =>
        refine ho Bx σ H2 e2 x.d y.d v1 v2 _ _ z p2.s (.rep (rep_after p1.rp p2.fr p2.le)) (.rep p2.rp) fun u H3 p3 => ?_
        have rp := p3.rp
        cases rp
        refine ⟨k, rfl, ?_⟩
        cases k with
        | true =>
          refine iteT ⟨e2, Bx, p3.s, run_mono (bind_run q) (fun d3 e3 q v3 H4 p4 => ?_) fun _ z => EX.after (EX.after z p12.fr p12.le) p3.fr p3.le⟩
          cases z' : G y.d d3 with
          | none => rw [z'] at q; exact q.elim
          | some r3 =>
            rw [z'] at q
            exact ho' Bx σ H4 e3 y.d d3 v2 v3 r3 Q z' p4.s (.rep (rep_after (rep_after p2.rp p3.fr p3.le) p4.fr p4.le)) p4.o fun u H5 p5 => q u H5 (p12.after (p3.after (Post.after_o p4 p5)))
        | false => exact iteF (q _ _ (p12.after p3))
    | _ => cases wf <;> exact q.elim
theorem ge_chain {c : Expr} {op op' : CmpOp} {F G : D → D → Option Rs} {r r' : R2} {f g : XF} {h : En → Res D} (hr : OpR X (compareOp op) r) (hr' : OpR X (compareOp op') r') (ho : OpOk C F r) (ho' : OpOk C G r') (ha : GE C X W a f) (hb : GE C X W b g) (hc : GO C X W c h)
    (hm : lastMarks [op, op'] [b, c] = false := by with_unfolding_all rfl) : GE C X W (.Compare a [op, op'] [b, c] pos) (xChn F G f g h) :=
  pe_imp (pe_chain hr hr' ha hb hc hm) fun _ _ _ q => chain_run ho ho' q
theorem gt_chain {c : Expr} {op op' : CmpOp} {F G : D → D → Option Rs} {r r' : R2} {f g : XF} {h : En → Res D} (hr : OpR X (compareOp op) r) (hr' : OpR X (compareOp op') r') (ho : OpOk C F r) (ho' : OpOk C G r') (ha : GE C X W a f) (hb : GE C X W b g) (hc : GO C X W c h)
    (hm : lastMarks [op, op'] [b, c] = false := by with_unfolding_all rfl) : GT C X W (.Compare a [op, op'] [b, c] pos) (xTest (xChn F G f g h)) :=
  pt_imp (pt_chain hr hr' ha hb hc hm) fun _ _ _ q => chain_run ho ho' (test_run q)

/-! ### dicts -/
def keyEq : D → D → Bool
  | .int i, .int j => decide (i = j)
  | .str x, .str y => decide (x = y)
  | _, _ => false
def isKey : D → Bool
  | .int _ => true | .str _ => true | _ => false
def getD (ks : List (D × D)) (k : D) : Option D := (ks.find? fun q => keyEq q.1 k).map (·.2)
def putD (ks : List (D × D)) (k v : D) : List (D × D) := if ks.any (fun q => keyEq q.1 k) then ks.map (fun q => if keyEq q.1 k then (q.1, v) else q) else ks ++ [(k, v)]
theorem key_of {d : D} (h : isKey d = true) : ∃ k : Key, d = keyD k := by
  cases d with
  | int i => exact ⟨.inl i, rfl⟩
  | str x => exact ⟨.inr x, rfl⟩
  | _ => cases h
theorem keyEq_iff (k j : Key) : keyEq (keyD k) (keyD j) = decide (k = j) := by
  cases k <;> cases j <;> simp [keyD, keyEq]
theorem Opd.key {k : Key} (o : Opd K H B v (keyD k)) : v = kV k := by
  cases k with
  | inl i => exact o.int
  | inr x => exact o.str
theorem RepK.get {kvs : List (Key × V)} {ks : List (D × D)} {k : Key} (r : RepK K H B kvs ks) : (∀ d, getD ks (keyD k) = some d → ∃ v, valV kvs k = some v ∧ Rep K H B v d) ∧ (getD ks (keyD k)).isSome = (valV kvs k).isSome := by
  induction ks generalizing kvs with
  | nil => cases r; exact ⟨fun d h => (by cases h), rfl⟩
  | cons q ks ih =>
    cases r with
    | @cons j v kvs d ks ra rb =>
      by_cases c : j = k
      · subst c
        have e1 : getD ((keyD j, d) :: ks) (keyD j) = some d := by simp [getD, List.find?_cons, keyEq_iff]
        have e2 : valV ((j, v) :: kvs) j = some v := valV_pos rfl
        rw [e1, e2]
        exact ⟨fun d' h => (by cases h; exact ⟨v, rfl, ra⟩), rfl⟩
      · have e1 : getD ((keyD j, d) :: ks) (keyD k) = getD ks (keyD k) := by simp [getD, List.find?_cons, keyEq_iff, c]
        have e2 : valV ((j, v) :: kvs) k = valV kvs k := valV_neg c
        rw [e1, e2]
        exact ih rb
theorem RepK.put {kvs : List (Key × V)} {ks : List (D × D)} {k : Key} (r : RepK K H B kvs ks) (rv : Rep K H B v d) : RepK K H B (putK kvs k v) (putD ks (keyD k) d) := by
  have an : (kvs.any fun kv => decide (kv.1 = k)) = ks.any fun q => keyEq q.1 (keyD k) := by
    induction ks generalizing kvs with
    | nil => cases r; rfl
    | cons q ks ih => cases r with | cons ra rb => rw [List.any_cons, List.any_cons, ih rb, keyEq_iff]
  have mp : RepK K H B (kvs.map fun kv => if kv.1 = k then (kv.1, v) else kv) (ks.map fun q => if keyEq q.1 (keyD k) then (q.1, d) else q) := by
    clear an
    induction ks generalizing kvs with
    | nil => cases r; exact .nil
    | cons q ks ih =>
      cases r with
      | @cons j u kvs du ks ra rb =>
        rw [List.map_cons, List.map_cons]
        by_cases c : j = k
        · rw [if_pos c, if_pos (by rw [keyEq_iff]; simpa using c)]; exact .cons rv (ih rb)
        · rw [if_neg c, if_neg (by rw [keyEq_iff]; simpa using c)]; exact .cons ra (ih rb)
  have ap : RepK K H B (kvs ++ [(k, v)]) (ks ++ [(keyD k, d)]) := by
    clear an mp
    induction ks generalizing kvs with
    | nil => cases r; exact .cons rv .nil
    | cons q ks ih => cases r with | cons ra rb => exact .cons ra (ih rb)
  unfold putK putD
  rw [an]
  split
  · exact mp
  · exact ap
/-- y in d -/
def rDIn (neg : Bool) : R2 := fun y x H Q => ∃ a o, x = .ref a ∧ DGet H a y o ∧ Q (.bl (if neg then !o.isSome else o.isSome)) H
theorem op_din (hu : X.A.units + 1 < cLine) : OpR X (compareOp .In) (rDIn false) := by
  intro pins s σ H x y v u Q I rx ry h
  obtain ⟨a, o, rfl, g, q⟩ := h
  cases (show u = Value.ref a from ry)
  exact d_in hu I g rx fun s3 I3 => ⟨.bl o.isSome, H, I3, rfl, q⟩
theorem op_dnotin (hu : X.A.units + 1 < cLine) : OpR X (compareOp .NotIn) (rDIn true) := by
  intro pins s σ H x y v u Q I rx ry h
  obtain ⟨a, o, rfl, g, q⟩ := h
  cases (show u = Value.ref a from ry)
  exact d_notIn hu I g rx fun s3 I3 => ⟨.bl (!o.isSome), H, I3, rfl, q⟩
def fDIn (neg : Bool) : D → D → Option Rs := fun k x => match x with
  | .dict ks => if isKey k then sb (if neg then !(getD ks k).isSome else (getD ks k).isSome) else none
  | _ => none
theorem ok_din {neg : Bool} : OpOk C (fDIn neg) (rDIn neg) := by
  intro Bx σ H e0 d1 d2 v1 v2 z Q hz s o1 o2 q
  cases d2 <;> try (cases hz; done)
  simp only [fDIn] at hz
  split at hz
  · rename_i hk
    cases hz
    obtain ⟨k, rfl⟩ := key_of hk
    obtain ⟨a, kvs, rfl, hq, rs⟩ := o2.dict
    refine ⟨a, valV kvs k, rfl, by rw [o1.key]; exact .k hq, ?_⟩
    rw [← rs.get.2]
    exact q _ _ (post_b s)
  · cases hz
/-- all of `in` -/
def fInA (neg : Bool) : D → D → Option Rs := fun x y => match fIn neg x y with | some z => some z | none => fDIn neg x y
abbrev rInAll (K : PySem.W.Frag) (neg : Bool) : R2 := fun x y H Q => rInA K neg x y H Q ∨ rDIn neg x y H Q
theorem op_inAll (hu : X.A.units + 1 < cLine) : OpR X (compareOp .In) (rInAll X.K false) := op_inA.or (op_din hu)
theorem op_notInAll (hu : X.A.units + 1 < cLine) : OpR X (compareOp .NotIn) (rInAll X.K true) := op_notInA.or (op_dnotin hu)
theorem ok_inAll {neg : Bool} : OpOk C (fInA neg) (rInAll C.K neg) := ok_in.or ok_din
/-- d[y] -/
def rDGet : R2 := fun x y H Q => ∃ a v, x = .ref a ∧ DGet H a y (some v) ∧ Q v H
theorem ix_dict (hu : X.A.units + 1 < cLine) : IxR X rDGet := by
  intro value slice pins s σ H x y v u Q I rx ry h hs
  obtain ⟨a, w, rfl, g, q⟩ := h
  cases (show v = Value.ref a from rx)
  have hT := dict_typeIs I g
  unfold subscriptTail
  refine wpAny_bind ?_
  rw [getitemInPython_of_ne hT.not_modules]
  refine wpAny_bind (wpAny_specialOf hT PySem.F.slot_dict_getitem.lookup ?_)
  have fin : wpAny (model X.prog X.w) X.A (subscripted slice false (.ref a) u) (fun r s₃ => wpAny (model X.prog X.w) X.A (letTemporaryGo value (.ref a) r >>= fun _ => pure r) (EP X pins σ Q) X.xe s₃) X.xe s := by
    rw [hs]
    exact wpAny_operating (wpAny_mono (d_getItem (Q := EP X pins σ Q) hu I g ry fun w' s3 I3 rw' => ⟨w, H, I3, rw', q⟩) (fun r s₃ h₃ => wpAny_bind (wpAny_letTemporaryGo (wpAny_pure h₃))) fun _ _ x => x)
  first
    | exact wpAny_pure (wpAny_bind fin)
    | exact wpAny_bind fin
    | exact wpAny_pure fin
    | exact fin
def fDGet : D → D → Option Rs := fun x k => match x with
  | .dict ks => if isKey k then (getD ks k).map fun d => ⟨d, false⟩ else none
  | _ => none
theorem ok_dget : OpOk C fDGet rDGet := by
  intro Bx σ H e0 d1 d2 v1 v2 z Q hz s o1 o2 q
  cases d1 <;> try (cases hz; done)
  rename_i ks
  simp only [fDGet] at hz
  split at hz
  · rename_i hk
    obtain ⟨k, rfl⟩ := key_of hk
    obtain ⟨a, kvs, rfl, hq, rs⟩ := o1.dict
    cases w : getD ks (keyD k) with
    | none => rw [w] at hz; cases hz
    | some d =>
      rw [w] at hz; cases hz
      obtain ⟨v, h1, h2⟩ := rs.get.1 d w
      refine ⟨a, v, rfl, ?_, q _ _ (.same s h2)⟩
      rw [o2.key, ← h1]; exact .k hq
  · cases hz
def fIxA : D → D → Option Rs := fun x y => match fIx x y with | some z => some z | none => fDGet x y
abbrev rIxAll (K : PySem.W.Frag) : R2 := fun x y H Q => rIx K x y H Q ∨ rDGet x y H Q
theorem ix_all (hu : X.A.units + 1 < cLine) : IxR X (rIxAll X.K) := ix_seq.or (ix_dict hu)
theorem ok_ixAll : OpOk C fIxA (rIxAll C.K) := ok_ix.or ok_dget
end
end G
end L2
namespace L2
namespace G
open PySem PySem.Spec PyProof.Rows
section
variable {C : Ct} {X : Cx} {W : WX} {K : PySem.W.Frag} {Bx By S B : Addr → Prop} {io : List Nat} {σ σ' σ1 σ2 : L2.St} {H H' H1 H2 : Hp} {e0 e' e1 e2 : En} {e a b : Expr} {pos : Pos} {d d' : D} {v : V} {st : Stmt} {r : Rs} {p : Addr} {ds : List D} {xs : List V}

/-! ### d[k] = v, an own dict -/
def ownD (i : Nat) (e : En) : Option (List (D × D)) := match e[i]? with
  | some (Sl.ow true (.dict ks)) => some ks
  | _ => none
theorem Sim.ownDict {i : Nat} {ks : List (D × D)} (s : Sim K Bx σ H e0) (h : ownD i e0 = some ks) : ∃ p kvs, e0[i]? = some (Sl.ow true (.dict ks)) ∧ σ[i]? = some (some (V.ref p)) ∧ H p = some (.dK kvs) ∧ RepK K H (Avo Bx σ e0) kvs ks := by
  unfold ownD at h
  split at h
  · rename_i ks' z
    cases h
    obtain ⟨p, h1, _, t⟩ := s.ow i true _ z
    cases t with | dct q r => exact ⟨p, _, z, h1, q, r⟩
  · cases h
theorem Sim.writeD {i : Nat} {d : D} {kvs kv' : List (Key × V)} {ks : List (D × D)} (s : Sim K Bx σ H e0) (h : e0[i]? = some (Sl.ow true d)) (hp : σ[i]? = some (some (V.ref p))) (ho : H p = some (.dK kvs)) (rs : RepK K H (Avo Bx σ e0) kv' ks) :
    Sim K Bx σ (upd H p (.dK kv')) (e0.set i (.ow true (.dict ks))) ∧ Fr σ e0 H (upd H p (.dK kv')) ∧ Le σ e0 (e0.set i (.ow true (.dict ks))) :=
  s.writeG h hp ho trivial fun k => .dct upd_same (rs.keep k)
def sDPt (i : Nat) (f : XF) (g : En → Res D) : SF := fun e => (f e).bind fun r e1 => if (ownD i e1).isSome then (g e1).bind fun k e2 => match ownD i e2 with
  | some ks => if isKey k && decide (ks.length < most) then .ok .nx (e2.set i (.ow true (.dict (putD ks k r.d)))) else .st
  | none => .st else .st
theorem dput_run {i : Nat} {f : XF} {g : En → Res D} {Dd : Ends} (h : TDs C W io (sDPt i f g) Dd σ H) : sDPut (tVar i) (TDo C W g) (TD C W f) Dd σ H := by
  obtain ⟨e, Bx, s, q⟩ := h
  refine ⟨e, Bx, s, run_mono (bind_run q) (fun r e1 q v H1 p1 => ?_) fun _ z => z⟩
  split at q
  · rename_i hs
    obtain ⟨ds, hds⟩ := Option.isSome_iff_exists.mp hs
    obtain ⟨p, xs, z1, z2, z3, z4⟩ := p1.s.ownDict hds
    refine ⟨_, z2, e1, Bx, p1.s, run_mono (bind_run q) (fun k e2 q u H2 p2 => ?_) fun _ z => EX.after z p1.fr p1.le⟩
    cases w : ownD i e2 with
    | none => rw [w] at q; exact q.elim
    | some ks =>
      rw [w] at q
      dsimp only at q
      split at q
      · rename_i hk
        simp only [Bool.and_eq_true, decide_eq_true_eq] at hk
        obtain ⟨k', rfl⟩ := key_of hk.1
        obtain ⟨p', kvs, w1, w2, w3, w4⟩ := p2.s.ownDict w
        rw [z2] at w2; cases w2
        obtain ⟨s', fr, le⟩ := p2.s.writeD w1 z2 w3 (w4.put (k := k') (rep_after p1.rp p2.fr p2.le))
        refine ⟨p, _, rfl, ?_, q σ _ (.of ((p1.fr.trans p1.le p2.fr).trans (p1.le.trans p2.le) fr) ((p1.le.trans p2.le).trans le) s')⟩
        rw [p2.o.key]
        exact .k w3 (by rw [w4.length]; exact most_lt (Nat.le_of_lt hk.2))
      · exact q.elim
  · exact q.elim
theorem gs_dput {i : Nat} {f : XF} {g : En → Res D} {x : Str} {np spos : Pos} {ix : Expr} (hu : X.A.units + 1 < cLine) (hN : X.N[i]? = some x) (hv : Vis X.env.scope x) (hf : GE C X W e f) (hg : GO C X W ix g) (hd : (x == ("__debug__" : Str)) = false := by decide) (hcd : (x == ("__classdict__" : Str)) = false := by decide)
    (hs : swapsWith e (some (.Subscript (.Name x np) ix spos)) pos.line X.env = pure false := by rfl) : GS C X W io (.Assign [.Subscript (.Name x np) ix spos] e pos) (sDPt i f g) :=
  ps_imp (ps_dput hu (pe_var hN hv hd hcd) hg hf hs) fun _ _ _ h => dput_run h

/-! ### {}, {k: v, ..} -/
def dispL : List (XF × XF) → En → Res (List (D × D))
  | [], e => .ok [] e
  | (f, g) :: r, e => (f e).bind fun k e1 => (g e1).bind fun y e2 => (dispL r e2).bind fun ks e3 => if isKey k.d then .ok ((k.d, y.d) :: ks) e3 else .st
def mergeD (ks more : List (D × D)) : List (D × D) := more.foldl (fun acc q => putD acc q.1 q.2) ks
def xDsp (l : List (XF × XF)) : XF := fun e => (dispL l e).bind fun ks e1 => if ks.length ≤ 15 then .ok ⟨.dict (mergeD [] ks), true⟩ e1 else .st
structure GPs (C : Ct) (X : Cx) (W : WX) (pos : Pos) (keys : List (Option Expr)) (values : List Expr) (l : List (XF × XF)) : Prop where
  h : PPs X pos keys values (l.map fun q => (TD C W q.1, TD C W q.2))
theorem gps_nil : GPs C X W pos [] [] [] := ⟨pps_nil⟩
theorem gps_cons {k y : Expr} {ks : List (Option Expr)} {ys : List Expr} {f g : XF} {l : List (XF × XF)} (hk : GE C X W k f) (hy : GE C X W y g) (hr : GPs C X W pos ks ys l) : GPs C X W pos (some k :: ks) (y :: ys) ((f, g) :: l) := ⟨pps_cons hk hy hr.h⟩
theorem RepK.merge {more : List (Key × V)} {mks : List (D × D)} : ∀ {kvs : List (Key × V)} {ks : List (D × D)}, RepK K H B kvs ks → RepK K H B more mks → RepK K H B (mergeK kvs more) (mergeD ks mks) := by
  induction mks generalizing more with
  | nil => intro kvs ks r m; cases m; exact r
  | cons q mks ih =>
    intro kvs ks r m
    cases m with
    | @cons j v more d mks ra rb => exact ih (kvs := putK kvs j v) (r.put ra) rb
theorem pairs_run {l : List (XF × XF)} : ∀ {σ : L2.St} {Bx : Addr → Prop} {H : Hp} {e0 : En} {Q : List (V × V) → Hp → Prop} {P : List (D × D) → En → Prop} {E : Exn → Prop}, Sim C.K Bx σ H e0 → (dispL l e0).run P E →
    (∀ x, E x → EX C W σ H e0 x) → (∀ ks e1, P ks e1 → ∀ kvs H1, Fr σ e0 H H1 → Le σ e0 e1 → Sim C.K Bx σ H1 e1 → RepK C.K H1 (Avo Bx σ e1) kvs ks → Q (kvs.map fun kv => (kV kv.1, kv.2)) H1) → tPairs (l.map fun q => (TD C W q.1, TD C W q.2)) σ H Q := by
  induction l with
  | nil => intro σ Bx H e0 Q P E s q _ h; exact h [] e0 q [] H .refl .refl s .nil
  | cons fg l ih =>
    obtain ⟨f, g⟩ := fg
    intro σ Bx H e0 Q P E s q hE h
    refine ⟨e0, Bx, s, run_mono (bind_run q) (fun k e1 q u H1 p1 => ?_) hE⟩
    refine ⟨e1, Bx, p1.s, run_mono (bind_run q) (fun y e2 q w H2 p2 => ?_) fun x z => EX.after (hE x z) p1.fr p1.le⟩
    have p12 := p1.after p2
    refine ih (P := fun ks e3 => ((if isKey k.d then .ok ((k.d, y.d) :: ks) e3 else .st : Res (List (D × D)))).run P E) (E := E) p2.s (run_mono (bind_run q) (fun _ _ z => z) fun _ z => z) (fun x z => EX.after (hE x z) p12.fr p12.le) fun ks e3 q kvs H3 fr le s3 rk => ?_
    split at q
    · rename_i hk
      obtain ⟨j, hj⟩ := key_of hk
      have rp := p1.rp
      rw [hj] at rp q
      have := (Opd.rep rp).key; subst this
      exact h _ _ q ((j, w) :: kvs) H3 (p12.fr.trans p12.le fr) (p12.le.trans le) s3 (.cons (rep_after p2.rp fr le) rk)
    · exact q.elim
theorem ge_disp {keys : List (Option Expr)} {values : List Expr} {l : List (XF × XF)} (h : GPs C X W pos keys values l) (hall : keys.all (·.isSome) = true := by rfl) (hl : keys.length = values.length := by rfl) (h0 : keys ≠ [] := by simp) (h15 : keys.length ≤ 15 := by decide) : GE C X W (.Dict keys values pos) (xDsp l) := by
  refine pe_imp (pe_disp h.h hall hl h0 h15) fun σ H Q ⟨e, Bx, s, q⟩ p hp => ?_
  have s1 : Sim C.K (ad Bx p) σ (upd H p (.dK [])) e := s.laid hp
  have f1 : Fr σ e H (upd H p (.dK [])) := Kp.new hp
  refine pairs_run s1 (bind_run q) (fun x z => EX.after z f1 .refl) fun ks e1 q kvs H2 fr le s2 rk => ?_
  split at q
  · rename_i hl
    have np : ¬ Bx p := fun z => s.bx p z hp
    have nw : ¬ Wr σ e p := fun z => s.there z.av hp
    have h2 : H2 p = some (.dK []) := fr.keep p _ upd_same nw
    refine ⟨h2, kvs, rfl, by rw [rk.length]; exact hl, ?_⟩
    have kw : Kp (Avo (ad Bx p) σ e1) H2 (upd H2 p (.dK (mergeK [] kvs))) := .write h2 trivial (.inr (.inr rfl))
    have f2 : Kp (fun a => Wr σ e a ∨ a = p) H2 (upd H2 p (.dK (mergeK [] kvs))) := .write h2 trivial (.inr rfl)
    refine q _ _ ⟨?_, le, ⟨p, rfl, np, ?_, .dct upd_same ((RepK.merge .nil rk).keep kw)⟩, fun _ q z => by cases z; exact hp⟩
    · have k1 : Fr σ e H H2 := f1.trans .refl fr
      refine ⟨fun a o z n => ?_, fun a z => f2.there a (k1.there a z), fun a zs z => f2.tup a zs (k1.tup a zs z)⟩
      rw [upd_ne (ne_of_none z hp)]; exact k1.keep a o z n
    · refine ⟨s2.len, fun i d z => ?_, fun i w d z => ?_, s2.inj, fun a z => kw.there a (s2.bx a z)⟩
      · obtain ⟨v, q1, q2⟩ := s2.sh i d z
        exact ⟨v, q1, q2.keep kw⟩
      · obtain ⟨a, q1, q2, q3⟩ := s2.ow i w d z
        refine ⟨a, q1, q2, q3.go kw (fun _ z _ => z) fun o z => ?_⟩
        rw [upd_ne fun y => q2 (.inr y)]; exact z
  · exact q.elim
def xD0 : XF := fun e => .ok ⟨.dict [], true⟩ e
theorem ge_d0 : GE C X W (.Dict [] [] pos) xD0 := by
  refine pe_imp pe_dnewK fun σ H Q ⟨e, Bx, s, q⟩ p hp => q _ _ ⟨Kp.new hp, .refl, ⟨p, rfl, fun z => s.bx p z hp, s.laid hp, .dct upd_same .nil⟩, fun _ q z => by cases z; exact hp⟩

/-! ### xs.pop(), xs.pop(k) -/
def xPop (i : Nat) : XF := fun e => match ownL i e with
  | some ds => (match ds[ds.length - 1]? with | some d => .ok ⟨d, false⟩ (e.set i (.ow true (.list ds.dropLast))) | none => .st)
  | none => .st
theorem ge_pop {i : Nat} {x : Str} {np apos cpos : Pos} (hK : X.K = C.K) (hN : X.N[i]? = some x) (hv : Vis X.env.scope x) (hd : (x == ("__debug__" : Str)) = false := by decide) (hcd : (x == ("__classdict__" : Str)) = false := by decide)
    (hbase : attributeBase (.Name x np) "pop" X.env (eval (.Name x np) X.env) = eval (.Name x np) X.env := by rfl) (hline : (apos.endLine == cpos.line) = true := by rfl) : GE C X W (.Call (.Attribute (.Name x np) "pop" apos) [] [] cpos) (xPop i) := by
  refine pe_imp (pe_bm0 PySem.F.plainAttrs_list PySem.F.slot_list_pop PySem.F.type_list_pop mt_pop (pe_var hN hv hd hcd) hbase hline) fun σ H Q ⟨e, Bx, s, q⟩ => ?_
  unfold xPop at q
  cases w : ownL i e with
  | none => rw [w] at q; exact q.elim
  | some ds =>
    rw [w] at q
    dsimp only at q
    obtain ⟨p, xs, z1, z2, z3, z4⟩ := s.own w
    cases y : ds[ds.length - 1]? with
    | none => rw [y] at q; exact q.elim
    | some d =>
      rw [y] at q
      obtain ⟨u, hu, ru⟩ := z4.getD y
      obtain ⟨s', fr, le⟩ := s.write z1 z2 z3 z4.dropLast
      refine ⟨_, z2, .inl ⟨rfl, _, .inl (.inl z3)⟩, p, xs, u, rfl, rfl, z3, by rw [z4.length]; exact hu, q _ _ (.mk0 fr le s' (rep_after ru fr le))⟩
def xPopA (i : Nat) (g : En → Res D) : XF := fun e => if (ownL i e).isSome then (g e).bind fun k e1 => match k, ownL i e1 with
  | .int j, some ds => if ds.length ≤ most then (match ixN ds.length j with
    | some m => (match ds[m]? with | some d => .ok ⟨d, false⟩ (e1.set i (.ow true (.list (ds.eraseIdx m)))) | none => .st)
    | none => .st) else .st
  | _, _ => .st else .st
theorem ge_popA {i : Nat} {g : En → Res D} {x : Str} {np apos cpos : Pos} (hK : X.K = C.K) (hN : X.N[i]? = some x) (hv : Vis X.env.scope x) (hg : GO C X W a g) (hd : (x == ("__debug__" : Str)) = false := by decide) (hcd : (x == ("__classdict__" : Str)) = false := by decide)
    (hbase : attributeBase (.Name x np) "pop" X.env (eval (.Name x np) X.env) = eval (.Name x np) X.env := by rfl)
    (hfew : ((backTo cpos (starEach [a] X.env)).all (fun x => !x.1) && (backToKw cpos (keywordEach [] X.env)).all (fun x => x.1.isSome)
      && decide (([a] : List Expr).length + ([] : List Keyword).length + (if ([] : List Keyword).isEmpty then 0 else 1) < 30)) = true := by rfl)
    (hline : (apos.endLine == cpos.line) = true := by rfl) (hs : starEach [a] X.env = (false, eval a X.env) :: starEach [] X.env := by rfl) : GE C X W (.Call (.Attribute (.Name x np) "pop" apos) [a] [] cpos) (xPopA i g) := by
  refine pe_imp (pe_bm PySem.F.plainAttrs_list PySem.F.slot_list_pop PySem.F.type_list_pop mt_popAt (pe_var hN hv hd hcd) (pa_cons hg pa_nil hs) hbase hfew hline hs rfl) fun σ H Q ⟨e, Bx, s, q⟩ => ?_
  unfold xPopA at q
  split at q
  · rename_i hs
    obtain ⟨ds0, hds⟩ := Option.isSome_iff_exists.mp hs
    obtain ⟨p, xs0, y1, y2, y3, y4⟩ := s.own hds
    refine ⟨_, y2, .inl ⟨rfl, _, .inl (.inl y3)⟩, e, Bx, s, run_mono (bind_run q) (fun k e1 q v H1 p1 => ?_) fun _ z => z⟩
    cases k with
    | int j =>
      cases w : ownL i e1 with
      | none => rw [w] at q; exact q.elim
      | some ds =>
        rw [w] at q
        dsimp only at q
        split at q
        case isFalse => exact q.elim
        rename_i hmost
        obtain ⟨p', xs, z1, z2, z3, z4⟩ := p1.s.own w
        rw [y2] at z2; cases z2
        cases m : ixN ds.length j with
        | none => rw [m] at q; exact q.elim
        | some m' =>
          rw [m] at q
          dsimp only at q
          cases y : ds[m']? with
          | none => rw [y] at q; exact q.elim
          | some d =>
            rw [y] at q
            obtain ⟨u, hu, ru⟩ := z4.getD y
            obtain ⟨n1, n2, n3, n4⟩ := ixN_seq m
            obtain ⟨s', fr, le⟩ := p1.s.write z1 y2 z3 (z4.eraseIdx m')
            have hl := line63
            have := most_ok hmost
            exact ⟨p, xs, j, m', u, rfl, by rw [p1.o.int], z3, by omega, by omega, by rw [z4.length]; exact n1, hu, q _ _ (Post.after_o p1 (.mk0 fr le s' (rep_after ru fr le)))⟩
    | _ => exact q.elim
  · exact q.elim
end
end G
end L2
namespace L2
namespace G
open PySem PySem.Spec PyProof.Rows
section
variable {C : Ct} {X : Cx} {W : WX} {K : PySem.W.Frag} {Bx By S B : Addr → Prop} {io : List Nat} {σ σ' σ1 σ2 : L2.St} {H H' H1 H2 : Hp} {e0 e' e1 e2 : En} {e a b : Expr} {pos : Pos} {d d' : D} {v : V} {st : Stmt} {r : Rs} {p : Addr} {ds : List D} {xs : List V}

/-! ### raise X('..') -/
def sRaise (c : Nat) : SF := fun _ => .ex ⟨c, none⟩
theorem gs_raise {c : Nat} {x m : Str} {j : Nat} {p p2 cpos : Pos} {bmB : List Value} {Bs newId initId : String} (hK : X.K = C.K) (hc : X.calm = true) (tk : Takes X W) (F : ExcBaseFacts Bs newId initId bmB) (q : PySem.W.excIn C.K (C.cl c) bmB newId = true) (gC : X.mg x = some (.ref (C.cl c)))
    (kC : PySem.W.keepIn C.K (.ref (C.cl c)) = true) (h1 : PySem.W.subIn C.K (.ref (C.cl c)) (.type "BaseException") = some true) (h2 : PySem.W.typeIn C.K (.ref (C.cl c)) = some (.type "type")) (hg : Gl X x) (hdb : (x == ("__debug__" : Str)) = false := by decide) :
    GS C X W io (.Raise (some (.Call (.Name x p) [.Constant (.str m) j p2] [] cpos)) none pos) (sRaise c) := by
  rw [← hK] at q kC h1 h2
  exact ps_imp (ps_raise hc tk (pmk_own F q gC kC (raises_own h1 h2) hg hdb)) fun D σ H ⟨e, Bx, s, q⟩ => q _ _ σ H rfl ⟨rfl, fun _ z => nomatch z⟩ .refl

/-! ### try .. except X: .. except Y: .. -/
abbrev Hs := List ((Nat → Option Bool) × SF)
def pick : Hs → Exn → SF
  | [], x, _ => .ex x
  | (m, h) :: r, x, e => match m x.cls with
    | some true => h e
    | some false => pick r x e
    | none => .st
def sTry (f : SF) (l : Hs) : SF := fun e => match f e with
  | .ex x => pick l x (List.replicate e.length .un)
  | .ok fl e1 => .ok fl e1
  | .st => .st
inductive HdC (C : Ct) (X : Cx) (W : WX) : List ExceptHandler → Hs → List (Value × (Addr → Value → Option Addr → TS)) → Prop
  | nil : HdC C X W [] [] []
  | cons {x : Str} {c : Value} {m : Nat → Option Bool} {h : SF} {b₀ : Stmt} {suite : List Stmt} {np pos' : Pos} {hds : List ExceptHandler} {l : Hs} {tl : List (Value × (Addr → Value → Option Addr → TS))} (hc : Names X x c)
      (hm : ∀ k b, m k = some b → PySem.W.exmOne C.K (.ref (C.cl k)) c = some b)
      (hsu : ∀ (a : Addr) (oe : Obj) (pn : List (Addr × Obj)), GSs C (X.suite a ((a, oe) :: pn)) W [] (b₀ :: suite) h) (r : HdC C X W hds l tl) :
      HdC C X W (.ExceptHandler (some (.Name x np)) none (b₀ :: suite) pos' :: hds) ((m, h) :: l) ((c, fun _ _ _ => TDs C W [] h) :: tl)
theorem HdC.ok {hds : List ExceptHandler} {l : Hs} {tl : List (Value × (Addr → Value → Option Addr → TS))} (h : HdC C X W hds l tl) : HdsOk X hds tl := by
  induction h with
  | nil => exact .nil
  | cons hc hm hsu r ih => exact .cons hc (fun a oe cls d pn _ _ => hsu a oe pn) ih
theorem un_none {n i : Nat} {y : Sl} (h : (List.replicate n Sl.un)[i]? = some y) : y = .un := by
  rw [List.getElem?_replicate] at h
  split at h
  · exact (Option.some.inj h).symm
  · cases h
theorem SPost.lost (s : Sim K Bx σ H e0) (hl : σ'.length = σ.length) (f : Fr σ e0 H H') : SPost K Bx [] σ H e0 σ' H' (List.replicate e0.length .un) := by
  refine ⟨f, fun a ⟨i, d, h, _⟩ => ?_, fun a ⟨i, w, d, h, _⟩ => ?_, ⟨by rw [List.length_replicate, hl]; exact s.len, fun i d h => ?_, fun i w d h => ?_, fun i j w w' d d' a h => ?_, fun a z => f.there a (s.bx a z)⟩, fun i m => (by cases m), hl⟩
  all_goals (have := un_none h; cases this)
theorem pick_run {hds : List ExceptHandler} {l : Hs} {tl : List (Value × (Addr → Value → Option Addr → TS))} {Dd : Ends} {x : Exn} {cls : Value} {od : Option Addr} (h : HdC C X W hds l tl) (s : Sim C.K Bx σ H e0) (hl : σ'.length = σ.length) (f : Fr σ e0 H H') (hx : ExR C x cls od H')
    (q : (pick l x (List.replicate e0.length .un)).run (FlP C.K Bx [] σ H e0 Dd) (EX C W σ H e0)) : wMany C.K W Dd tl cls od σ' H' := by
  induction h with
  | nil => exact q cls od σ' H' hl hx f
  | @cons y c m h b₀ suite np pos' hds l tl hc hm hsu r ih =>
    unfold pick at q
    cases z : m x.cls with
    | none => rw [z] at q; exact q.elim
    | some b =>
      rw [z] at q
      have e1 := hm _ _ z
      rw [← hx.1] at e1
      refine ⟨b, e1, fun hb a _ => ?_, fun hb => ?_⟩
      · subst hb
        have sp := SPost.lost s hl f
        exact ⟨_, Bx, sp.s, run_after sp q⟩
      · subst hb
        exact ih q
theorem gs_try {h₀ : ExceptHandler} {body : List Stmt} {hds : List ExceptHandler} {f : SF} {l : Hs} {tl : List (Value × (Addr → Value → Option Addr → TS))} (hK : X.K = C.K) (hs : X.stack = X.env :: X.outer) (hf : X.env.frame = some X.env.locals) (tk : Takes X W)
    (hb : ∀ (W : WX) (pn : List (Addr × Obj)) (xe : Value → Shared → Prop), Takes (X.tr pn xe) W → PassesOwn (model X.prog X.w) X.A X.env xe → GSs C (X.tr pn xe) W [] body f) (hh : HdC C X W (h₀ :: hds) l tl) : GS C X W [] (.Try body (h₀ :: hds) [] [] pos) (sTry f l) := by
  refine ps_imp (ps_try_many hs hf tk (tb := fun W => TDs C W [] f) hb hh.ok) fun Dd σ H ⟨e, Bx, s, q⟩ => ⟨e, Bx, s, ?_⟩
  rw [hK]
  unfold sTry at q
  cases z : f e with
  | st => rw [z] at q; exact q.elim
  | ok fl e1 => rw [z] at q; exact q
  | ex x =>
    rw [z] at q
    exact fun cls od σ' H' hl hx fr => pick_run hh s hl fr hx q

/-! ### a, b = x, y -/
theorem gV_post {i : Nat} (h : Holds K Bx σ H e0 r v) (hg : gV i r e0 = some e') (hio : i ∉ io) : GPost K Bx io σ H e0 r v (σ.set i (some v)) e' := by
  unfold gV at hg
  split at hg
  · rename_i hl
    cases hg
    obtain ⟨d, fr⟩ := r
    cases fr with
    | false =>
      obtain ⟨s, rp⟩ := h
      obtain ⟨s', wr, av⟩ := s.setSh hl rp
      exact ⟨s', fun a z => .inl (wr a z), fun a z => .inl (av a z), fun j m => st_set fun z => hio (z ▸ m), by simp⟩
    | true =>
      obtain ⟨p, rfl, nb, s, t⟩ := h
      obtain ⟨s', wr, av⟩ := s.setOw nb hl t
      exact ⟨s', fun a z => (wr a z).imp id fun z => ⟨rfl, by rw [z]⟩, fun a z => (av a z).imp id fun z => ⟨rfl, by rw [z]⟩, fun j m => st_set fun z => hio (z ▸ m), by simp⟩
  · cases hg
def sPar (i j : Nat) (f g : XF) : SF := fun e => (f e).bind fun r1 e1 => (g e1).bind fun r2 e2 => match gV j r2 e2 with
  | some e3 => (match gV i r1 e3 with | some e4 => .ok .nx e4 | none => .st)
  | none => .st
theorem par_run {i j : Nat} {f g : XF} {Dd : Ends} (hij : i ≠ j) (hi : i ∉ io) (hj : j ∉ io) (h : TDs C W io (sPar i j f g) Dd σ H) : tPar i j (tCons (TD C W f) (tCons (TD C W g) tNil)) Dd σ H := by
  obtain ⟨e, Bx, s, q⟩ := h
  refine ⟨e, Bx, s, run_mono (bind_run q) (fun r1 e1 q v1 H1 p1 => ?_) fun _ z => z⟩
  obtain ⟨d1, f1⟩ := r1
  have i1 := p1.is
  -- what the second value's part may not touch
  have fin : ∀ (By : Addr → Prop), Sim C.K By σ H1 e1 → (∀ {r2 : Rs} {e2 e3 : En} {v2 : V} {H2 : Hp} {σ2 : L2.St}, Fr σ e1 H1 H2 → (∀ a, Av σ2 e3 a → Av σ e1 a ∨ H1 a = none) → Sim C.K By σ2 H2 e3 → Holds C.K Bx σ2 H2 e3 ⟨d1, f1⟩ v1) →
      TD C W g σ H1 fun w H2 => ∃ v w', [v1, w] = [v, w'] ∧ Dd.nx ((σ.set i (some v)).set j (some w')) H2 := fun By sB k => by
    refine ⟨e1, By, sB, run_mono (bind_run q) (fun r2 e2 q v2 H2 p2 => ?_) fun _ z => EX.after z p1.fr p1.le⟩
    cases z : gV j r2 e2 with
    | none => rw [z] at q; exact q.elim
    | some e3 =>
      rw [z] at q
      dsimp only at q
      have g2 := gV_post p2.is z hj
      have h3 := k (r2 := r2) (e2 := e2) (v2 := v2) p2.fr (fun a w => (g2.av a w).elim (fun w => .inl (p2.le.av a w)) fun w => .inr (p2.new w.1 a w.2)) g2.s
      cases z' : gV i ⟨d1, f1⟩ e3 with
      | none => rw [z'] at q; exact q.elim
      | some e4 =>
        rw [z'] at q
        have g1 := gV_post h3 z' hi
        have wr2 : ∀ a, Wr (σ.set j (some v2)) e3 a → Wr σ e a ∨ H a = none := fun a w => (g2.wr a w).elim (fun w => .inl (p1.le.wr a (p2.le.wr a w))) fun w => .inr (p1.fr.new (p2.new w.1 a w.2))
        have av2 : ∀ a, Av (σ.set j (some v2)) e3 a → Av σ e a ∨ H a = none := fun a w => (g2.av a w).elim (fun w => .inl (p1.le.av a (p2.le.av a w))) fun w => .inr (p1.fr.new (p2.new w.1 a w.2))
        refine ⟨v1, v2, rfl, ?_⟩
        rw [← List.set_comm _ _ (Ne.symm hij)]
        exact q _ _ ⟨p1.fr.trans p1.le p2.fr, fun a w => (g1.wr a w).elim (wr2 a) fun w => .inr (p1.new w.1 a w.2), fun a w => (g1.av a w).elim (av2 a) fun w => .inr (p1.new w.1 a w.2), g1.s, fun k m => (g1.io k m).trans (g2.io k m), g1.len.trans g2.len⟩
  have an : ∀ {By : Addr → Prop} {σ2 : L2.St} {e3 : En} {H2 : Hp}, (∀ a, Av σ2 e3 a → Av σ e1 a ∨ H1 a = none) → ∀ a, Avo By σ2 e3 a → H1 a ≠ none → Avo By σ e1 a := fun av a z n => z.elim (fun z => (av a z).elim .inl fun z => absurd z n) .inr
  cases f1 with
  | false => exact fin Bx i1.1 fun f av s3 => ⟨s3, i1.2.go (f.anti fun a z => .inl z.av) fun a z n => an (H2 := H1) av a z n⟩
  | true =>
    obtain ⟨p, rfl, nb, sp, t⟩ := i1
    refine fin (ad Bx p) sp fun f av s3 => ⟨p, rfl, nb, s3, t.go (f.anti fun a z => .inl z.av) (fun a z n => an (H2 := H1) av a z n) fun o w => f.keep p o w fun z => ?_⟩
    obtain ⟨k, dk, y1, y2⟩ := z
    obtain ⟨b, y3, y4, _⟩ := sp.ow k true dk y1
    rw [y2] at y3; cases y3
    exact y4 (.inr rfl)
theorem gs_par {i j : Nat} {x y : Str} {f g : XF} {px py pt : Pos} {kt k2 pt2} (hc : X.calm = true) (hN : X.N.Nodup) (hi : X.N[i]? = some x) (hj : X.N[j]? = some y) (hij : i ≠ j) (hx : X.env.scope.names.lookup x = some .local) (hy : X.env.scope.names.lookup y = some .local)
    (hf : GE C X W a f) (hg : GE C X W b g) (hi' : i ∉ io) (hj' : j ∉ io)
    (hw : swappedStores [.Tuple [.Name x px, .Name y py] kt pt] (.Tuple [a, b] k2 pt2) X.env = pure (some [x, y]))
    (h1 : starEach [a, b] X.env = (false, eval a X.env) :: starEach [b] X.env := by rfl) (h2 : starEach [b] X.env = (false, eval b X.env) :: starEach [] X.env := by rfl)
    (hs : swapsWithSole [.Tuple [.Name x px, .Name y py] kt pt] (.Tuple [a, b] k2 pt2) pos.line X.env = pure false := by rfl) :
    GS C X W io (.Assign [.Tuple [.Name x px, .Name y py] kt pt] (.Tuple [a, b] k2 pt2) pos) (sPar i j f g) :=
  ps_imp (ps_par hc hN hi hj hij hx hy (pa_cons hf (pa_cons hg pa_nil h2) h1) hw hs) fun _ _ _ h => par_run hij hi' hj' h

/-! ### [f, g][k](..) -/
inductive Sel (C : Ct) (X : Cx) (k n : Nat) : List Expr → List XF → List Addr → Prop
  | nil : Sel C X k n [] [] []
  | cons {x : Str} {np : Pos} {f : Addr} {fd : FuncData} {ps : List Str} {φ : XF} {es : List Expr} {φs : List XF} {as : List Addr} (F : FnG X.prog X.w C.K X.mg X.base k f fd ps (spF C (List.replicate n false) φ)) (hm : X.mg x = some (.ref f)) (kp : PySem.W.keepIn C.K (.ref f) = true) (b : Binds C.K fd ps [])
      (hg : Gl X x) (hd : (x == ("__debug__" : Str)) = false) (hs : starEach (.Name x np :: es) X.env = (false, eval (.Name x np) X.env) :: starEach es X.env) (r : Sel C X k n es φs as) : Sel C X k n (.Name x np :: es) (φ :: φs) (f :: as)
theorem Sel.add {k j n : Nat} {x : Str} {np : Pos} {φ : XF} {es : List Expr} {φs : List XF} (F : GF C X.prog X.w X.mg X.base j x (List.replicate n false) φ) (hk : j ≤ k) (hg : Gl X x) (r : ∃ as, Sel C X k n es φs as) (hd : (x == ("__debug__" : Str)) = false := by decide)
    (hs : starEach (.Name x np :: es) X.env = (false, eval (.Name x np) X.env) :: starEach es X.env := by rfl) : ∃ as, Sel C X k n (.Name x np :: es) (φ :: φs) as := by
  obtain ⟨f, fd, ps, Fk, hm, kp, b⟩ := F.ex
  obtain ⟨as, r⟩ := r
  exact ⟨_, .cons (Fk.mono hk) hm kp b hg hd hs r⟩
theorem Sel.pa {k n : Nat} {es : List Expr} {φs : List XF} {as : List Addr} (h : Sel C X k n es φs as) : PA X es (fun _ H Q => Q (as.map V.ref) H) := by
  induction h with
  | nil => exact pa_nil
  | cons F hm kp b hg hd hs r ih => exact pa_imp (pa_cons (pe_glob hg hm (v := V.ref _) rfl hd) ih hs) fun _ _ _ h => h
theorem Sel.at {k n : Nat} {es : List Expr} {φs : List XF} {as : List Addr} (h : Sel C X k n es φs as) : as.length = φs.length ∧ ∀ (i : Nat) φ, φs[i]? = some φ → ∃ f fd ps, as[i]? = some f ∧ FnG X.prog X.w C.K X.mg X.base k f fd ps (spF C (List.replicate n false) φ) ∧ PySem.W.keepIn C.K (.ref f) = true ∧ Binds C.K fd ps [] := by
  induction h with
  | nil => exact ⟨rfl, fun i φ h => by simp at h⟩
  | cons F hm kp b hg hd hs r ih =>
    refine ⟨by simp [ih.1], fun i φ h => ?_⟩
    cases i with
    | zero => simp at h; subst h; exact ⟨_, _, _, rfl, F, kp, b⟩
    | succ i => simpa using ih.2 i φ (by simpa using h)
def xSel (n : Nat) (φs : List XF) (f : XF) (g : En → Res (List D)) : XF := fun e => if φs.length ≤ 100 then (f e).bind fun r e1 => match r.d with
  | .int j => (match atI φs j with | some φ => xCall0 n φ g e1 | none => .st)
  | _ => .st else .st
theorem ge_sel {k n : Nat} {names as : List Expr} {φs : List XF} {f : XF} {g : En → Res (List D)} {ix : Expr} {lp sp : Pos} (S : ∃ as, Sel C X k n names φs as) (hK : X.K = C.K) (tk : Takes X W) (hr : Rm k X.A) (hi : GE C X W ix f) (hix : PlainIx ix) (ha : GA C X W (a :: as) g)
    (he : starEach (a :: as) X.env = (false, eval a X.env) :: starEach as X.env := by rfl) (hpl : (backTo pos (starEach as X.env)).any (·.1) = false := by rfl)
    (hcall : eval (.Call (.Subscript (.List names lp) ix sp) (a :: as) [] pos) X.env = (do callWith pos (← eval (.Subscript (.List names lp) ix sp) X.env) [] (backTo pos (starEach (a :: as) X.env)) (backToKw pos (keywordEach [] X.env))) := by rfl) :
    GE C X W (.Call (.Subscript (.List names lp) ix sp) (a :: as) [] pos) (xSel n φs f g) := by
  obtain ⟨fs, S⟩ := S
  refine ⟨fun pins s σ H Q I ⟨e, Bx, si, q⟩ => ?_⟩
  obtain ⟨hlen, hat⟩ := S.at
  unfold xSel at q
  split at q
  case isFalse => exact q.elim
  rename_i h100
  refine PyProof.Rows.Call_ (thn ((pe_ix ix_list (pe_lst S.pa) hi hix).run pins s σ H (fun x H1 => ∃ (F : Addr) (fd : FuncData) (ps : List Str) (φ : XF), x = .ref F ∧ FnG X.prog X.w C.K X.mg X.base k F fd ps (spF C (List.replicate n false) φ) ∧ PySem.W.keepIn C.K (.ref F) = true ∧ Binds C.K fd ps [] ∧
    tCallS (spF C (List.replicate n false) φ) (WE W) (TDa C W g) σ H1 Q) I ?_) fun fv s1 ⟨x, H1, I1, r1, F, fd, ps, φ, ex, Fk, kp, b, q1⟩ => ?_) hcall
  · refine ⟨by rw [List.length_map, hlen]; exact Nat.le_trans h100 (most_ok (by decide)), fun p0 hp => ?_⟩
    have f0 : Fr σ e H (upd H p0 (.lst (fs.map V.ref))) := Kp.new hp
    refine ⟨e, Bx, si.heap (ext_new hp), run_mono (bind_run q) (fun r e1 q v H1 p1 => ?_) fun _ z => EX.after z f0 .refl⟩
    obtain ⟨d, fr⟩ := r
    cases d with
    | int j =>
      have rp := p1.rp
      cases rp
      dsimp only at q
      cases z : atI φs j with
      | none => rw [z] at q; exact q.elim
      | some φ =>
        rw [z] at q
        have z' := z
        unfold atI at z'
        cases y : ixN φs.length j with
        | none => rw [y] at z'; cases z'
        | some m =>
          rw [y] at z'
          obtain ⟨F, fd, ps, h1, h2, h3, h4⟩ := hat m φ z'
          have nw : ¬ Wr σ e p0 := fun z => si.there z.av hp
          refine ⟨p0, fs.map V.ref, j, V.ref F, rfl, rfl, .inl (.inl (p1.fr.keep p0 _ upd_same nw)), ?_, F, fd, ps, φ, rfl, h2, h3, h4, call0_run ⟨e1, Bx, p1.s, run_mono q (fun r e2 q v H2 p2 => q v H2 ?_) fun _ z => EX.after (EX.after z f0 .refl) p1.fr p1.le⟩⟩
          · unfold atI
            rw [List.length_map, hlen, y]
            simp [h1]
          · have p3 := p1.after p2
            exact ⟨f0.trans .refl p3.fr, p3.le, p3.is, fun z u w => Classical.byContradiction fun o => by
              have h5 := p3.new z u w
              exact f0.there u o h5⟩
    | _ => exact q.elim
  · subst ex
    cases (show fv = Value.ref F from r1)
    rw [← hK] at Fk kp b
    refine PySem.W.callWith_K (h₀ := X.base) I1.ok.mod.kin kp (thn (ha.run pos pins s1 σ H1 _ I1 q1) fun us s2 ⟨vs, H2, I2, r2, q2⟩ => ⟨I2.kIn, ?_⟩) he hpl
    exact run_fnG Fk hr b tk I2 r2 q2

/-! ### methods of texts, with one argument -/
def OkM (C : Ct) (F : Str → D → Option Rs) (r : V → List V → Hp → VK → Prop) : Prop := ∀ (Bx : Addr → Prop) (σ : L2.St) (H : Hp) (e0 : En) (x : Str) (d2 : D) (v2 : V) (z : Rs) (Q : VK), F x d2 = some z → Sim C.K Bx σ H e0 →
  Opd C.K H (Avo Bx σ e0) v2 d2 → (∀ v H', Post C.K Bx σ H e0 z e0 v H' → Q v H') → r (.str x) [v2] H Q
def xM1 (F : Str → D → Option Rs) (f : XF) (g : En → Res D) : XF := fun e => (f e).bind fun r e1 => match r.d with
  | .str x => (g e1).bind fun y e2 => (match F x y with | some r => .ok r e2 | none => .st)
  | _ => .st
theorem ge_m1 {id : String} {name : Str} {apos : Pos} {rr : V → List V → Hp → VK → Prop} {F : Str → D → Option Rs} {f : XF} {g : En → Res D} (slot : Slot "str" name id) (hty : typeOf (.builtin id) = pure (.type "method_descriptor")) (hm : MtR X id rr) (ho : OkM C F rr) (ha : GE C X W a f) (hb : GO C X W b g)
    (hbase : attributeBase a name X.env (eval a X.env) = eval a X.env := by rfl)
    (hfew : ((backTo pos (starEach [b] X.env)).all (fun x => !x.1) && (backToKw pos (keywordEach [] X.env)).all (fun x => x.1.isSome)
      && decide (([b] : List Expr).length + ([] : List Keyword).length + (if ([] : List Keyword).isEmpty then 0 else 1) < 30)) = true := by rfl)
    (hline : (apos.endLine == pos.line) = true := by rfl) (hs : starEach [b] X.env = (false, eval b X.env) :: starEach [] X.env := by rfl) : GE C X W (.Call (.Attribute a name apos) [b] [] pos) (xM1 F f g) := by
  refine pe_imp (pe_bm PySem.F.plainAttrs_str slot hty hm ha (pa_cons hb pa_nil hs) hbase hfew hline hs rfl) fun σ H Q ⟨e, Bx, s, q⟩ => ⟨e, Bx, s, run_mono (bind_run q) (fun r e1 q v H1 p1 => ?_) fun _ z => z⟩
  obtain ⟨d, fr⟩ := r
  cases d with
  | str x =>
    have rp := p1.rp
    cases rp
    refine ⟨rfl, e1, Bx, p1.s, run_mono (bind_run q) (fun y e2 q w H2 p2 => ?_) fun _ z => EX.after z p1.fr p1.le⟩
    cases z : F x y with
    | none => rw [z] at q; exact q.elim
    | some r => rw [z] at q; exact ho Bx σ H2 e2 x y w r Q z p2.s p2.o fun v H3 p3 => q v H3 (p1.after (Post.after_o p2 p3))
  | _ => exact q.elim
theorem reps_strs {K : PySem.W.Frag} : ∀ ys : List Str, Reps K H B (ys.map V.str) (ys.map PyData.str)
  | [] => .nil
  | _ :: ys => .cons (.str _) (reps_strs ys)
def fSplit : Str → D → Option Rs := fun x y => match y with
  | .str b => if !(b.length == 0) && decide (x.length + 2 ≤ most) then some ⟨.list ((Txt.split x b).map PyData.str), true⟩ else none
  | _ => none
theorem ok_split : OkM C fSplit (fun x xs H Q => ∃ a b, x = .str a ∧ xs = [.str b] ∧ (b.length == 0) = false ∧ a.length + 2 ≤ sizeLine ∧ rNewStrs (Txt.split a b) H Q) := by
  intro Bx σ H e0 x d2 v2 z Q hz s o q
  cases d2 <;> try (cases hz; done)
  simp only [fSplit] at hz
  split at hz
  · rename_i h
    cases hz
    simp only [Bool.and_eq_true, Bool.not_eq_true', decide_eq_true_eq] at h
    exact ⟨x, _, rfl, by rw [o.str], h.1, most_ok h.2, fun p hp => q _ _ (.newL s hp (reps_strs _))⟩
  · cases hz
def strsD : List D → Option (List Str)
  | [] => some []
  | .str i :: ds => (strsD ds).map (i :: ·)
  | _ => none
theorem strs_reps : ∀ {ds : List D} {xs : List V} {ns : List Str}, strsD ds = some ns → Reps K H B xs ds → xs = ns.map V.str
  | [], _, _, h, r => by cases r; cases h; rfl
  | .str i :: ds, _, _, h, r => by
    cases r with
    | cons a b =>
      cases a
      unfold strsD at h
      cases z : strsD ds with
      | none => rw [z] at h; cases h
      | some ns => rw [z] at h; cases h; rw [strs_reps z b]; rfl
  | .none :: _, _, _, h, _ => by cases h
  | .bool _ :: _, _, _, h, _ => by cases h
  | .int _ :: _, _, _, h, _ => by cases h
  | .list _ :: _, _, _, h, _ => by cases h
  | .tuple _ :: _, _, _, h, _ => by cases h
  | .dict _ :: _, _, _, h, _ => by cases h
def fJoin : Str → D → Option Rs := fun x y =>
  let k := fun (ds : List D) => (strsD ds).bind fun ys => if decide ((ys.map (·.length)).sum + ys.length * x.length ≤ most) then some (⟨.str (Txt.join x ys), false⟩ : Rs) else none
  match y with
  | .list ds => k ds
  | .tuple ds => k ds
  | _ => none
theorem ok_join : OkM C fJoin (fun x xs H Q => ∃ a p, ∃ ys : List Str, x = .str a ∧ xs = [.ref p] ∧ (SqL C.K H p (ys.map V.str) ∨ SqT C.K H p (ys.map V.str)) ∧
    (ys.map (·.length)).sum + ys.length * a.length ≤ 16777216 ∧ Q (.str (Txt.join a ys)) H) := by
  intro Bx σ H e0 x d2 v2 z Q hz s o q
  have hmost : most ≤ 16777216 := by decide
  unfold fJoin at hz
  cases d2 <;> try (cases hz; done)
  all_goals
    rename_i ds
    simp only at hz
    cases w : strsD ds with
    | none => rw [w] at hz; cases hz
    | some ys =>
      rw [w] at hz
      simp only [Option.bind_some] at hz
      split at hz
      case isFalse => cases hz
      rename_i hl
      cases hz
      simp only [decide_eq_true_eq] at hl
      first
        | (obtain ⟨a, xs, rfl, hq, rs⟩ := o.list
           obtain rfl := strs_reps w rs
           exact ⟨x, a, ys, rfl, rfl, .inl (.inl (.inl hq)), Nat.le_trans hl hmost, q _ _ (post_s s)⟩)
        | (obtain ⟨a, xs, rfl, hq, rs⟩ := o.tuple
           obtain rfl := strs_reps w rs
           exact ⟨x, a, ys, rfl, rfl, .inr hq, Nat.le_trans hl hmost, q _ _ (post_s s)⟩)
end
end G
end L2
namespace L2
namespace G
open PySem PySem.Spec PyProof.Rows
section
variable {C : Ct} {X : Cx} {W : WX} {K : PySem.W.Frag} {Bx By S B : Addr → Prop} {io : List Nat} {σ σ' σ1 σ2 : L2.St} {H H' H1 H2 : Hp} {e0 e' e1 e2 : En} {e a b : Expr} {pos : Pos} {d d' : D} {v : V} {st : Stmt} {r : Rs} {p : Addr} {ds : List D} {xs : List V}
variable {P : Program} {w : World} {mg : Str → Option Value} {base : Heap}

/-! ### what stands at the top -/
/-- a value of the written part as data -/
def repIn (K : PySem.W.Frag) : Nat → Value → D → Bool
  | 0, _, _ => false
  | n + 1, u, d => match u, d with
    | .none, .none => true
    | .bool b, .bool c => decide (b = c)
    | .int i _, .int j => decide (i = j)
    | .str x _, .str y => decide (x = y)
    | .ref a, .tuple ds => (match K.lookup a with
      | some ⟨.type "tuple", _, .seq its _, _⟩ => decide (its.size ≤ most) && decide (its.toList.length = ds.length) && (its.toList.zip ds).all fun q => repIn K n q.1 q.2
      | _ => false)
    | _, _ => false
theorem vals_in {K : PySem.W.Frag} {H : Hp} {B : Addr → Prop} {n : Nat} (ih : ∀ (u : Value) (d : D), repIn K n u d = true → ∃ v, RelV v u ∧ ∀ H B, Rep K H B v d) : ∀ {its : List Value} {ds : List D}, its.length = ds.length → ((its.zip ds).all fun q => repIn K n q.1 q.2) = true → ∃ vs, Vals vs its ∧ ∀ H B, Reps K H B vs ds
  | [], [], _, _ => ⟨[], .nil, fun _ _ => .nil⟩
  | u :: its, d :: ds, hl, h => by
    rw [List.zip_cons_cons, List.all_cons, Bool.and_eq_true] at h
    obtain ⟨v, h1, h2⟩ := ih u d h.1
    obtain ⟨vs, h3, h4⟩ := vals_in (H := H) (B := B) ih (by simpa using hl) h.2
    exact ⟨v :: vs, .cons h1 h3, fun H B => .cons (h2 H B) (h4 H B)⟩
  | [], _ :: _, hl, _ => by simp at hl
  | _ :: _, [], hl, _ => by simp at hl
theorem rep_in {K : PySem.W.Frag} : ∀ (n : Nat) (u : Value) (d : D), repIn K n u d = true → ∃ v, RelV v u ∧ ∀ H B, Rep K H B v d
  | 0, _, _, h => by cases h
  | n + 1, u, d, h => by
    unfold repIn at h
    split at h
    · exact ⟨.non, rfl, fun _ _ => .non⟩
    · rw [decide_eq_true_eq] at h; subst h; exact ⟨.bl _, rfl, fun _ _ => .bl _⟩
    · rw [decide_eq_true_eq] at h; subst h; exact ⟨.int _, ⟨_, rfl⟩, fun _ _ => .int _⟩
    · rw [decide_eq_true_eq] at h; subst h; exact ⟨.str _, ⟨_, rfl⟩, fun _ _ => .str _⟩
    · rename_i a ds
      split at h
      · rename_i dd its k sl q
        simp only [Bool.and_eq_true, decide_eq_true_eq] at h
        obtain ⟨⟨h1, h2⟩, h3⟩ := h
        obtain ⟨vs, r1, r2⟩ := vals_in (H := fun _ => none) (B := fun _ => True) (rep_in n) h2 h3
        exact ⟨.ref a, rfl, fun H B => .tup (.inr ⟨_, its, k, q, rfl, rfl, most_ok h1, r1⟩) (r2 H B)⟩
      · cases h
    · cases h
structure GlobF (C : Ct) (mg : Str → Option Value) (x : Str) (d : D) : Prop where
  ex : ∃ v u, mg x = some u ∧ RelV v u ∧ ∀ H B, Rep C.K H B v d
theorem globF_mk {h : Heap} {x : Str} {u : Value} {d : D} (X : C.K.In h) (G : h.Ns mainGlobals mg) (a : PySem.W.nsIn C.K mainGlobals x = some (some u)) (r : repIn C.K 30 u d = true) : GlobF C mg x d := by
  obtain ⟨v, h1, h2⟩ := rep_in 30 u d r
  exact ⟨v, u, PySem.W.mg_of X G a, h1, h2⟩
theorem ge_g {x : Str} (hg : Gl X x) (h : GlobF C X.mg x d) (hd : (x == ("__debug__" : Str)) = false := by decide) : GE C X W (.Name x pos) (xC d) := by
  obtain ⟨v, u, h1, h2, h3⟩ := h.ex
  exact ge_glob hg h1 h2 h3 hd
/-- a def of the top -/
def DefF (C : Ct) (mg : Str → Option Value) (x : Str) (st : Stmt) (ps : List Str) : Prop := ∃ f fd, Fun C.K x x st f fd ∧ mg x = some (.ref f) ∧ Binds C.K fd ps []
theorem GF.mono {k j : Nat} {x : Str} {pat : List Bool} {φ : XF} (h : GF C P w mg base k x pat φ) (hk : k ≤ j) : GF C P w mg base j x pat φ := h.imp (fun _ => .inr rfl) hk
/-- the rule of a def -/
theorem gf_def {k n : Nat} {x : Str} {st : Stmt} {N ps : List Str} {pat : List Bool} {body : SF} {φ : XF} (h : DefF C mg x st ps) (Sc : FnScope N ps (defScope st)) (hp : ps.length = pat.length) (hn : N.length - ps.length = n) (hφ : φ = fnD body pat n)
    (hb : ∀ (f : Addr) (cdv : Value) (A : Around) (outer : List Env) (s : Shared) (H : Hp) (E : XK), Rm k (A.deeper (envOfC x (defScope st) s.heap.objs.size f cdv)) →
      GSs C (cxOf (L2.CX P w) P w C.K mg base N x (defScope st) f cdv A outer s H E) (fun cls d _ H => E cls d H) (ioP 0 pat) (defBody st) body) : GF C P w mg base (k + 1) x pat φ := by
  obtain ⟨f, fd, Fk, hm, bd⟩ := h
  subst hφ hn
  exact gf_mk Fk hm bd Sc hp fun cdv A outer s H E hr => hb f cdv A outer s H E hr
theorem glk {x : Str} (h : X.env.kindOf x = some .globalImplicit) : Gl X x := h
theorem hu64 {A : Around} {k : Nat} (hr : Rm k A) : A.units + 64 < cLine := by have := hr.r.un; omega
theorem oth_not {n i : Nat} {vs : List Nat} (h : i ∈ vs) : i ∉ oth n vs := fun z => by
  have := (List.mem_filter.mp z).2
  simp [h] at this
/-- an own class of exceptions over ValueError, without own field -/
structure ExcF (C : Ct) (mg : Str → Option Value) (c : Nat) (x : Str) : Prop where
  q : PySem.W.excIn C.K (C.cl c) [.type "ValueError", .type "Exception", .type "BaseException", .type "object"] "ValueError.__new__" = true
  g : mg x = some (.ref (C.cl c))
  k : PySem.W.keepIn C.K (.ref (C.cl c)) = true
  b : PySem.W.subIn C.K (.ref (C.cl c)) (.type "BaseException") = some true
  t : PySem.W.typeIn C.K (.ref (C.cl c)) = some (.type "type")
theorem ExcF.raise {c : Nat} {x m : Str} {j : Nat} {p p2 cpos : Pos} (T : ExcF C X.mg c x) (hK : X.K = C.K) (hc : X.calm = true) (tk : Takes X W) (hg : Gl X x) (hdb : (x == ("__debug__" : Str)) = false := by decide) :
    GS C X W io (.Raise (some (.Call (.Name x p) [.Constant (.str m) j p2] [] cpos)) none pos) (sRaise c) := gs_raise hK hc tk PySem.F.excBase_ValueError T.q T.g T.k T.b T.t hg hdb
/-! f() -/
def xCallN (φ : XF) : XF := fun e => match φ [] with
  | .ok r _ => .ok r e
  | .ex x => .ex x
  | .st => .st
theorem ge_callN {k : Nat} {φ : XF} {x : Str} {np : Pos} (F : GF C X.prog X.w X.mg X.base k x [] φ) (hK : X.K = C.K) (tk : Takes X W) (hr : Rm k X.A) (hg : Gl X x) (hdb : (x == ("__debug__" : Str)) = false := by decide) : GE C X W (.Call (.Name x np) [] [] pos) (xCallN φ) := by
  obtain ⟨f, fd, ps, Fk, hm, kp, b⟩ := F.ex
  rw [← hK] at Fk kp b
  refine ⟨fun pins s σ H Q I h => ?_⟩
  refine wpAny_Call_Name_kw (ld_glob I hg hm ?_ hdb)
  refine PySem.W.callWith_K0 I.kIn kp ?_
  refine run_fnG (vs := []) Fk hr b tk I .nil ?_
  have q : TD C W (xCall0 0 φ xNil) σ H Q := by
    obtain ⟨e, Bx, s, q⟩ := h
    refine ⟨e, Bx, s, ?_⟩
    unfold xCallN at q
    unfold xCall0 xNil Res.bind
    simp only [List.length_nil, if_true, List.map_nil]
    cases z : φ [] with
    | st => rw [z] at q; exact q
    | ok r e' => rw [z] at q; exact q
    | ex y => rw [z] at q; exact q
  obtain ⟨e, Bx, s, q⟩ := call0_run q
  exact q [] H ⟨.refl, .refl, s, .nil⟩
/-! ### what is walked, of any kind: a list, a tuple, a text -/
def iAny (K : PySem.W.Frag) (tl : TE) : TI := fun σ H R => tl σ H fun x H1 => (∃ a, x = .ref a ∧ (∃ xs, SqL K H1 a xs) ∧ R (Itl K a) H1) ∨ (∃ a, x = .ref a ∧ (∃ xs, SqT K H1 a xs) ∧ R (Itt K a) H1) ∨ ∃ y, x = .str y ∧ R (Its y) H1
theorem pi_any {tg l : Expr} {tl : TE} (hl : PE X l tl) : PI X tg l (iAny X.K tl) := by
  refine ⟨fun pins s σ H R I h => ?_⟩
  refine thn (hl.run pins s σ H _ I h) fun v s1 ⟨x, H1, I1, r1, q1⟩ => ?_
  rcases q1 with ⟨a, e, ⟨xs, hq⟩, q⟩ | ⟨a, e, ⟨xs, hq⟩, q⟩ | ⟨y, e, q⟩
  · subst e
    cases r1
    obtain ⟨its, rv, p, hz⟩ := I1.list hq
    refine wpAny_pyIter_list p.isList ?_
    refine ⟨s1.heap.objs.size, [s1.heap.objs.size], _, _, H1, rfl, I1.kept (t' := s1.toks) fun b o e => Heap.get?_push_of_some _ e, turn_list a _, ⟨_, Heap.get?_push_size _ rfl, rfl, rfl⟩, fun b hb => ?_, q⟩
    have e : b = s1.heap.objs.size := by simpa using hb
    subst e
    exact I1.fpOk (Nat.le_refl _) (I1.hok.fresh (Nat.le_refl _))
  · subst e
    cases r1
    obtain ⟨its, rv, p, hz⟩ := I1.tuple hq
    refine wpAny_pyIter_tuple (show s1.heap.IsTuple a its.toArray from p) ?_
    refine ⟨s1.heap.objs.size, [s1.heap.objs.size], _, _, H1, rfl, I1.kept (t' := s1.toks) fun b o e => Heap.get?_push_of_some _ e, turn_tuple a _, ⟨_, Heap.get?_push_size _ rfl, rfl, rfl⟩, fun b hb => ?_, q⟩
    have e : b = s1.heap.objs.size := by simpa using hb
    subst e
    exact I1.fpOk (Nat.le_refl _) (I1.hok.fresh (Nat.le_refl _))
  · subst e
    obtain ⟨t, rfl⟩ := r1
    cases ha : y.cps.all (· < 128)
    · exact wpAny_pyIter_wide ha (pi_one (tk := s1.toks) I1 _ (turn_str _ y t "str_iterator" (.inr rfl)) ⟨_, Heap.get?_push_size _ rfl, rfl, rfl⟩ q)
    · exact wpAny_pyIter_ascii ha (pi_one (tk := s1.toks) I1 _ (turn_str _ y t "str_ascii_iterator" (.inl rfl)) ⟨_, Heap.get?_push_size _ rfl, rfl, rfl⟩ q)
def itemsD : D → Option (List D)
  | .list ds => some ds
  | .tuple ds => some ds
  | .str x => some (signs x)
  | _ => none
/-- an expression walked -/
def iA (f : XF) : En → Res (List D) := fun e => (f e).bind fun r e1 => match itemsD r.d with | some ds => .ok ds e1 | none => .st
theorem gi_a {tg : Expr} {f : XF} (hK : X.K = C.K) (h : GE C X W e f) : GI C X W tg e (iA f) := by
  refine pi_imp (pi_any h) fun σ H R ⟨e, Bx, s, q⟩ => ⟨e, Bx, s, run_mono (bind_run q) (fun r e1 q v H1 p => ?_) fun _ z => z⟩
  obtain ⟨d, fr⟩ := r
  have hp := p.rp
  have hs := p.s
  cases d with
  | list ds =>
    cases hp with
    | @lst l xs _ qd nb rs =>
      refine .inl ⟨l, rfl, ⟨xs, sql_rd qd⟩, q _ H1 ⟨p.fr, p.le, hs, ?_⟩⟩
      rw [hK]
      exact wk_list qd (fun z => nb (.inl z.av)) rs fun a z => .inl z.av
  | tuple ds =>
    cases hp with
    | @tup l xs _ qd rs =>
      rw [hK]
      exact .inr (.inl ⟨l, rfl, ⟨xs, qd⟩, q _ H1 ⟨p.fr, p.le, hs, wk_tup qd rs fun a z => .inl z.av⟩⟩)
  | str x => cases hp; exact .inr (.inr ⟨x, rfl, q _ H1 ⟨p.fr, p.le, hs, wk_str⟩⟩)
  | _ => exact q.elim
/-- a name walked: an own list is locked -/
def iN (i : Nat) : En → Res (List D) := fun e => (xB i e).bind fun d _ => match itemsD d with | some ds => .ok ds (lockE e i) | none => .st
theorem gi_n {i : Nat} {x : Str} {tg : Expr} (hK : X.K = C.K) (hN : X.N[i]? = some x) (hv : Vis X.env.scope x) (hd : (x == ("__debug__" : Str)) = false := by decide) (hcd : (x == ("__classdict__" : Str)) = false := by decide) : GI C X W tg (.Name x pos) (iN i) := by
  refine pi_imp (pi_any (pe_var hN hv hd hcd)) fun σ H R ⟨e, Bx, s, q⟩ => ?_
  obtain ⟨d, v, hx, hv', o, q⟩ := look_run s q
  obtain ⟨s', le⟩ := lock_le s i
  have an : ∀ a, Avo Bx σ (lockE e i) a → Avo Bx σ e a := Avo.le le
  cases d with
  | list ds =>
    obtain ⟨l, xs, rfl, qd, rs⟩ := o.list
    refine ⟨_, hv', .inl ⟨l, rfl, ⟨xs, sql_rd qd⟩, q _ H ⟨.refl, le, s', ?_⟩⟩⟩
    rw [hK]
    refine wk_list qd (fun z => ?_) (rs.anti an) fun a z => .inl z.av
    unfold xB at hx
    split at hx
    · rename_i d' h1
      cases hx
      obtain ⟨v, r1, r2⟩ := s.sh i _ h1
      rw [hv'] at r1; cases r1
      cases r2 with | lst _ nb _ => exact nb (.inl (le.wr _ z).av)
    · rename_i w d' h1
      cases hx
      obtain ⟨j, d2, h2, h3⟩ := z
      have h2' : e[j]? = some (Sl.ow true d2) ∧ j ≠ i := by
        unfold lockE at h2
        rw [h1] at h2
        cases w with
        | true =>
          rcases set_look h2 with ⟨_, z⟩ | ⟨n, z⟩
          · cases z
          · exact ⟨z, n⟩
        | false =>
          refine ⟨h2, fun n => ?_⟩
          subst n; rw [h1] at h2; cases h2
      exact h2'.2 (s.inj j i _ _ _ _ l h2'.1 h1 h3 hv')
    · cases hx
  | tuple ds =>
    obtain ⟨l, xs, rfl, qd, rs⟩ := o.tuple
    refine ⟨_, hv', .inr (.inl ⟨l, rfl, ⟨xs, by rw [hK]; exact qd⟩, q _ H ⟨.refl, le, s', ?_⟩⟩)⟩
    rw [hK]
    exact wk_tup qd (rs.anti an) fun a z => .inl z.av
  | str x => exact ⟨_, hv', .inr (.inr ⟨x, o.str, q _ H ⟨.refl, le, s', wk_str⟩⟩)⟩
  | _ => exact q.elim
def sForN (i : Nat) (g : Rs → En → Option En) (b : SF) : SF := fun e => (sFor (iN i) g b e).bind fun fl e2 => match fl with | .rt r => .ok (.rt r) e2 | fl => .ok fl (relock e e2 i)
theorem gs_forN {i : Nat} {x : Str} {np : Pos} {tg : Expr} {body : List Stmt} {g : Rs → En → Option En} {f : SF} (hp : PassesOwn (model X.prog X.w) X.A X.env X.xe) (hc : X.calm = true) (hi : GI C X W tg (.Name x np) (iN i)) (hg : GG C X (i :: io) tg g) (hb : GSs C X W (i :: io) body f)
    (hs : ∀ z, foldedSetIterable (.Name x np) X.env z = pure z := by intro _; rfl) : GS C X W io (.For tg (.Name x np) body [] pos) (sForN i g f) :=
  ps_imp (ps_for hp hc hi hg hb hs) fun Dd σ H ⟨e, Bx, s, q⟩ => for_run ⟨e, Bx, s, run_mono (bind_run q) (fun fl e2 q => by
    cases fl with
    | nx => exact fun σ' H' p => q σ' H' p.relock
    | ct => exact fun σ' H' p => q σ' H' p.relock
    | rt r => exact fun σ' v H' p => q σ' v H' ⟨p.k, p.av, p.is, p.new, fun j m => p.io j (List.mem_cons_of_mem _ m)⟩) fun _ z => z⟩
end
end G
end L2
namespace L2
namespace G
open PySem PySem.Spec PyProof.Rows PySem.Calls
section
variable {C : Ct} {X : Cx} {K : PySem.W.Frag} {H : Hp} {B : Addr → Prop} {d : D} {ds : List D} {v : V} {xs : List V}
/-! ### sorted(xs), xs a list or a tuple of things that are alike -/
def insD (le : D → D → Bool) (x : D) : List D → List D
  | [] => [x]
  | y :: ys => if le x y then x :: y :: ys else y :: insD le x ys
def srtD (le : D → D → Bool) : List D → List D
  | [] => []
  | x :: xs => insD le x (srtD le xs)
abbrev leD : D → D → Bool := PySem.W.dataLe false fun d : D => d
theorem insD_filter {le : D → D → Bool} (h : PySem.W.TotalLe le) (c x : D) : ∀ ys : List D, (insD le x ys).filter (PySem.W.sameRank le c) = (x :: ys).filter (PySem.W.sameRank le c)
  | [] => rfl
  | y :: ys => by
    unfold insD
    split
    · rfl
    · rename_i n
      have ih := insD_filter h c x ys
      by_cases hy : PySem.W.sameRank le c y = true
      · by_cases hx : PySem.W.sameRank le c x = true
        · unfold PySem.W.sameRank at hx hy
          simp only [Bool.and_eq_true] at hx hy
          exact absurd (h.trans _ _ _ hx.2 hy.1) n
        · rw [List.filter_cons_of_pos hy, ih, List.filter_cons_of_neg hx, List.filter_cons_of_neg hx, List.filter_cons_of_pos hy]
      · rw [List.filter_cons_of_neg hy, ih]
        by_cases hx : PySem.W.sameRank le c x = true
        · rw [List.filter_cons_of_pos hx, List.filter_cons_of_pos hx, List.filter_cons_of_neg hy]
        · rw [List.filter_cons_of_neg hx, List.filter_cons_of_neg hx, List.filter_cons_of_neg hy]
theorem srtD_filter {le : D → D → Bool} (h : PySem.W.TotalLe le) (c : D) : ∀ xs : List D, (srtD le xs).filter (PySem.W.sameRank le c) = xs.filter (PySem.W.sameRank le c)
  | [] => rfl
  | x :: xs => by
    unfold srtD
    rw [insD_filter h, List.filter_cons, List.filter_cons, srtD_filter h c xs]
theorem insD_mem {le : D → D → Bool} {x y : D} : ∀ {ys : List D}, y ∈ insD le x ys → y = x ∨ y ∈ ys
  | [], m => by simpa [insD] using m
  | z :: ys, m => by
    unfold insD at m
    split at m
    · simpa using m
    · rcases List.mem_cons.mp m with m | m
      · exact .inr (List.mem_cons.mpr (.inl m))
      · exact (insD_mem m).imp id (List.mem_cons_of_mem _)
theorem insD_sorted {le : D → D → Bool} (h : PySem.W.TotalLe le) (x : D) : ∀ {ys : List D}, ys.Pairwise (fun a b => le a b = true) → (insD le x ys).Pairwise (fun a b => le a b = true)
  | [], _ => List.pairwise_singleton _ _
  | y :: ys, hp => by
    obtain ⟨h1, h2⟩ := List.pairwise_cons.mp hp
    unfold insD
    split
    · rename_i c
      refine List.pairwise_cons.mpr ⟨fun z m => ?_, hp⟩
      rcases List.mem_cons.mp m with m | m
      · rw [m]; exact c
      · exact h.trans _ _ _ c (h1 z m)
    · rename_i n
      refine List.pairwise_cons.mpr ⟨fun z m => ?_, insD_sorted h x h2⟩
      rcases insD_mem m with m | m
      · rw [m]; exact (h.total x y).elim (fun c => absurd c n) id
      · exact h1 z m
theorem srtD_sorted {le : D → D → Bool} (h : PySem.W.TotalLe le) : ∀ xs : List D, (srtD le xs).Pairwise (fun a b => le a b = true)
  | [] => List.Pairwise.nil
  | x :: xs => insD_sorted h x (srtD_sorted h xs)
theorem leD_total : PySem.W.TotalLe leD := PySem.W.sortLe_total _ _ _
theorem srtD_eq (xs : List D) : srtD leD xs = xs.mergeSort leD := PySem.W.sort_unique leD_total (srtD_sorted leD_total xs) fun c => srtD_filter leD_total c xs
theorem collect_tup {prog : Program} {w : World} {A : Around} {E : Value → Shared → Prop} {s : Shared} {l : Addr} {vs : List Value} {Q : List Value → Shared → Prop} (hl : s.heap.IsTuple l vs.toArray) (hsz : vs.length ≤ sizeLine)
    (h : Q vs { s with heap := (s.heap.push (seqObj "list" #[] 0)).update s.heap.objs.size (Obj.mapSeq (· ++ vs.toArray)) }) : wpAny (model prog w) A (collect (.ref l)) Q E s := by
  obtain ⟨o, ho, hc, n, hd⟩ := id hl
  unfold collect
  refine wpAny_bind (wpAny_runValue (codeAny_builtin entry_proto_collect' ?_))
  show wpAny _ _ (do
    again (.builtin "list.__iadd__" ⟨[← newList [], .ref l], []⟩)) _ _ s
  refine wpAny_bind (wpAny_newList (wpAny_pure
    ⟨Code.quiet_builtin _ (by decide +kernel), codeAny_builtin entry_list_iadd' ?_⟩))
  show wpAny _ _ (Builtin.List.listExtendWith (.ref s.heap.objs.size)
    (.ref l) (.ref s.heap.objs.size)) _ _ { s with heap := s.heap.push (seqObj "list" #[] 0) }
  unfold Builtin.List.listExtendWith
  have ho1 : (s.heap.push (seqObj "list" #[] 0)).get? l = some o := Heap.get?_push_of_some _ ho
  refine wpAny_bind (wpAny_typeOf (T := "tuple") ⟨o, ho1, hc⟩ ?_)
  have ht : (Value.type "tuple" == Value.type "tuple") = true := by rfl
  rw [if_pos (by rw [ht]; simp)]
  refine wpAny_bind (listItems_at ho1 hd (wpAny_bind
    (listItems_at (xs := #[]) (n := 0) (Heap.get?_push_size _ rfl) rfl ?_)))
  rw [if_neg (by simp)]
  refine wpAny_bind (listUpdate_at (xs := #[]) (n := 0) (Heap.get?_push_size _ rfl) rfl
    (wpAny_pure ?_) (Nat.zero_le _) (by show (#[] ++ vs.toArray).size ≤ sizeLine + 1; simp only [Array.size_append, List.size_toArray, List.length_nil]; omega))
  show wpAny (model prog w) A (do
    let o ← load s.heap.objs.size
    match o.data with
    | .seq xs _ => pure xs.toList
    | _ => unsupported "internal:collect") Q E { s with heap := (s.heap.push (seqObj "list" #[] 0)).update s.heap.objs.size (Obj.mapSeq (· ++ vs.toArray)) }
  refine wpAny_bind (wpAny_load (get?_update_seq (Heap.get?_push_size _ rfl) _) ?_)
  show wpAny _ _ (pure
    ((#[] : Array Value) ++ vs.toArray).toList) Q E _
  rw [show ((#[] : Array Value)
    ++ vs.toArray).toList = vs by simp]
  exact wpAny_pure h
open PySem.W in
theorem sorted_tup {prog : Program} {w : World} {A : Around} {E : Value → Shared → Prop} {s : Shared} {l : Addr} {vs : List Value} {β : Type} {R : Value → β → Prop} {bs : List β} {enc : β → PyData} {Q : Value → Shared → Prop} (hl : s.heap.IsTuple l vs.toArray) (e : EachIs R vs bs) (er : EachIs (fun v b => ∃ as, Reads s.heap v (enc b) as) vs bs)
    (hal : AllAlike (bs.map enc)) (hk : Sortable (bs.map enc)) (hL : bs.length ≤ sizeLine) (hu : ∀ b, b ∈ bs → A.units + 2 + (enc b).depth < cLine) (h : ∀ out, out.length = bs.length → EachIs R out (bs.mergeSort (dataLe false enc)) → Q (.ref (s.heap.objs.size + 1)) { s with heap := sortedAll s.heap vs (List.toArray out) }) :
    wpAny (model prog w) A (call (.builtin "sorted") [.ref l]) Q E s := by
  have hL' : vs.length ≤ sizeLine := by rw [e.length]; exact hL
  have er' : EachIs (fun v b => ∃ as, Reads (sortingHeap (copyHeap s.heap vs) (s.heap.objs.size + 1) vs) v (enc b) as) vs bs :=
    er.mono fun _ _ ⟨as, r⟩ => ⟨as, PyProof.Rows.Reads.keeps (fun _ _ => sorting_copy_old) r⟩
  refine call_function_entry_kw kind_sorted plain_sorted entry_sorted (args_sorted1 _) ?_
  unfold Builtin.«sorted»
  refine wpAny_bind (m := checkCount "sorted" 1 1 _) (wpAny_pure (wpAny_bind
    (collect_tup hl hL' (wpAny_bind (wpAny_newList ?_ hL')))))
  have hsz : ((s.heap.push (seqObj "list" #[] 0)).update s.heap.objs.size
    (Obj.mapSeq (· ++ vs.toArray))).objs.size = s.heap.objs.size + 1 := by rw [Heap.size_update, size_push']
  show wpAny _ _ _ _ _
    { s with heap := copyHeap s.heap vs }
  rw [hsz]
  refine wpAny_bind (wpAny_holding (wpAny_call_entry_kw slot_list_sort
    ⟨_, copyHeap_at s.heap vs, rfl⟩ entry_list_sort ?body (args_list_sort _)))
  case body =>
    show wpAny (model prog w) A.in1.in1
      (Builtin.«list.sort» ⟨[.ref (s.heap.objs.size + 1)], []⟩) _ _ _
    refine wpAny_mono (list_sort_vals (P := fun f s' => f = .done (.ret .none) ∧ Q (.ref (s.heap.objs.size + 1)) s') (s := { s with heap := copyHeap s.heap vs }) (copyHeap_at s.heap vs)
      (SortsAt.data (s := { s with heap := sortingHeap (copyHeap s.heap vs) (s.heap.objs.size + 1) vs }) (each_map (R := fun v d => ∃ as, Reads (sortingHeap (copyHeap s.heap vs) (s.heap.objs.size + 1) vs) v d as) enc er') hal hk (bound_map hu)) hL'
      ⟨rfl, h _ (by rw [sortVals_length false rfl]; exact e.length) (sortVals_data false e er' hal)⟩) (fun f s' hf => ?_) fun _ _ e => e
    obtain ⟨rfl, hq⟩ := hf
    exact ⟨_, rfl,
      wpAny_pure ⟨_, rfl, hq⟩⟩
def sortOk (ds : List D) : Bool := (ds.all fun a => ds.all fun b => PySem.W.alike a b) && (ds.all (fun a => match a with | .tuple (_ :: _) => true | _ => false) || ds.all (fun a => match a with | .none => false | .tuple _ => false | _ => true)) && ds.all SeqAt.shaped && decide (ds.length ≤ most)
def fSort : D → Option Rs
  | .list ds => if sortOk ds then some ⟨.list (srtD leD ds), true⟩ else none
  | .tuple ds => if sortOk ds then some ⟨.list (srtD leD ds), true⟩ else none
  | _ => none
def rSort (K : PySem.W.Frag) : List V → Hp → VK → Prop := fun vs H Q => ∃ (a : Addr) (ps : List (V × D)), vs = [.ref a] ∧ (SqL K H a (ps.map (·.1)) ∨ SqT K H a (ps.map (·.1))) ∧ (∀ p ∈ ps, Dp K H p.1 p.2) ∧ sortOk (ps.map (·.2)) = true ∧
  ∀ l, H l = none → Q (.ref l) (upd H l (.lst ((ps.mergeSort (PySem.W.dataLe false (·.2))).map (·.1))))
theorem cr_sort (hc : X.calm = true) (hu : X.A.units + 66 < cLine) : CallR X (.builtin "sorted") (rSort X.K) := by
  intro pins s σ H vs us Q I r h
  obtain ⟨a, ps, rfl, hs, hp, hok, q⟩ := h
  rw [Vals.ref1 r]
  simp only [sortOk, Bool.and_eq_true, Bool.or_eq_true, List.all_eq_true, decide_eq_true_eq] at hok
  obtain ⟨⟨⟨h1, h2⟩, h3⟩, h4⟩ := hok
  have hal : PySem.W.AllAlike (ps.map (·.2)) := fun d hd d' hd' => h1 d hd d' hd'
  have hk : PySem.W.Sortable (ps.map (·.2)) := by
    rcases h2 with h2 | h2
    · refine .inl fun d hd => ?_
      have := h2 d hd
      split at this
      · exact ⟨_, _, rfl⟩
      · cases this
    · refine .inr fun d hd => ?_
      have := h2 d hd
      split at this
      · cases this
      · cases this
      · rename_i n1 n2; exact ⟨n1, fun xs => n2 xs⟩
  have hz : ps.length ≤ sizeLine := by rw [List.length_map] at h4; exact most_ok h4
  have hb : ∀ p, p ∈ ps → X.A.units + 2 + p.2.depth < cLine := fun p hm => by
    have := SeqAt.depth_of_shaped (h3 p.2 (List.mem_map.mpr ⟨p, hm, rfl⟩))
    omega
  have core : ∀ {its : List Value}, Vals (ps.map (·.1)) its → PySem.W.EachIs (fun v (p : V × D) => RelV p.1 v) its ps ∧ PySem.W.EachIs (fun v (p : V × D) => ∃ as, Reads s.heap v p.2 as) its ps := fun {its} rv => by
    clear h1 h2 h3 h4 hal hk hz hb q hs
    induction ps generalizing its with
    | nil => cases rv; exact ⟨.nil, .nil⟩
    | cons p ps ih =>
      cases rv with
      | cons r1 r2 =>
        obtain ⟨e1, e2⟩ := ih (fun p m => hp p (List.mem_cons_of_mem _ m)) r2
        exact ⟨.cons r1 e1, .cons (Dp.reads I p.2 p.1 _ (hp p List.mem_cons_self) r1) e2⟩
  have fin : ∀ {its : List Value}, ∀ out : List Value, out.length = ps.length → PySem.W.EachIs (fun v (p : V × D) => RelV p.1 v) out (ps.mergeSort (PySem.W.dataLe false (·.2))) → EP X pins σ Q (.ref (s.heap.objs.size + 1)) { s with heap := sortedAll s.heap its (List.toArray out) } := fun {its} out hlen he => by
    obtain ⟨ep, he'⟩ := PyProof.Rows.sortedAll_at s.heap its out.toArray
    have vr : ∀ {out : List Value} {qs : List (V × D)}, PySem.W.EachIs (fun v (p : V × D) => RelV p.1 v) out qs → Vals (qs.map (·.1)) out := fun {out qs} e => by
      induction e with
      | nil => exact .nil
      | cons a b ih => exact .cons a ih
    have rvo := vr he
    have hlen' : ((ps.mergeSort (PySem.W.dataLe false (·.2))).map (·.1)).length ≤ sizeLine := by rw [rvo.length, hlen]; exact hz
    exact ⟨.ref _, upd H (s.heap.objs.size + 1) (.lst ((ps.mergeSort (PySem.W.dataLe false (·.2))).map (·.1))), I.laid (t' := s.toks) (fun _ _ => PyProof.Rows.sortedAll_old) (Nat.le_succ _) ⟨hlen', out, ep, rvo, he'⟩, rfl, q _ (I.hok.fresh (Nat.le_succ _))⟩
  rcases hs with hs | hs
  · obtain ⟨its, rv, hl, _⟩ := I.list hs
    obtain ⟨e1, e2⟩ := core rv
    exact PySem.W.sorted_data hl.isList e1 e2 hal hk hz hb fin
  · obtain ⟨its, rv, hl, _⟩ := I.tuple hs
    obtain ⟨e1, e2⟩ := core rv
    exact sorted_tup hl e1 e2 hal hk hz hb fin
theorem reps_zip (rs : Reps K H B xs ds) : (xs.zip ds).map (·.1) = xs ∧ (xs.zip ds).map (·.2) = ds := by
  have := rs.length
  constructor
  · rw [List.map_fst_zip (by omega)]
  · rw [List.map_snd_zip (by omega)]
theorem reps_pairs (rs : Reps K H B xs ds) : ∀ p ∈ xs.zip ds, Rep K H B p.1 p.2 := by
  induction ds generalizing xs with
  | nil => cases rs; intro p m; cases m
  | cons d ds ih =>
    cases rs with
    | cons a b =>
      intro p m
      rw [List.zip_cons_cons] at m
      rcases List.mem_cons.mp m with rfl | m
      · exact a
      · exact ih b p m
theorem pairs_reps : ∀ {ps : List (V × D)}, (∀ p ∈ ps, Rep K H B p.1 p.2) → Reps K H B (ps.map (·.1)) (ps.map (·.2))
  | [], _ => .nil
  | p :: ps, h => .cons (h p List.mem_cons_self) (pairs_reps fun q m => h q (List.mem_cons_of_mem _ m))
theorem ok_sort : UnOk C fSort fun v => rSort C.K [v] := by
  intro Bx σ H e0 d1 v1 z Q hz s o q
  have core : ∀ {xs : List V} {ds : List D}, Reps C.K H (Avo Bx σ e0) xs ds → sortOk ds = true → (∀ p ∈ xs.zip ds, Dp C.K H p.1 p.2) ∧ sortOk ((xs.zip ds).map (·.2)) = true ∧ Reps C.K H (Avo Bx σ e0) (((xs.zip ds).mergeSort (PySem.W.dataLe false (·.2))).map (·.1)) (srtD leD ds) := fun {xs ds} rs hok => by
    have hz := reps_zip rs
    have hp := reps_pairs rs
    refine ⟨fun p m => ?_, by rw [hz.2]; exact hok, ?_⟩
    · simp only [sortOk, Bool.and_eq_true, List.all_eq_true] at hok
      have md : p.2 ∈ ds := by rw [← hz.2]; exact List.mem_map.mpr ⟨p, m, rfl⟩
      exact (hp p m).dp (SeqAt.canLay_of_shaped (hok.1.2 _ md))
    · have e : ((xs.zip ds).mergeSort (PySem.W.dataLe false (·.2))).map (·.2) = srtD leD ds := by
        have := PySem.W.sort_maps (r := PySem.W.dataLe false fun p : V × D => p.2) (s := leD) (fun p : V × D => p.2) (l := xs.zip ds) fun a _ b _ => rfl
        rw [hz.2] at this
        rw [srtD_eq]
        exact this
      rw [← e]
      exact pairs_reps fun p m => hp p ((List.mergeSort_perm _ _).mem_iff.mp m)
  unfold fSort at hz
  split at hz
  · split at hz
    · rename_i hok
      cases hz
      obtain ⟨a, xs, rfl, hq, rs⟩ := o.list
      obtain ⟨h1, h2, h3⟩ := core rs hok
      exact ⟨a, xs.zip _, rfl, .inl (by rw [(reps_zip rs).1]; exact .inl (.inl hq)), h1, h2, fun p hp => q _ _ (.newL s hp h3)⟩
    · cases hz
  · split at hz
    · rename_i hok
      cases hz
      obtain ⟨a, xs, rfl, hq, rs⟩ := o.tuple
      obtain ⟨h1, h2, h3⟩ := core rs hok
      exact ⟨a, xs.zip _, rfl, .inr (by rw [(reps_zip rs).1]; exact hq), h1, h2, fun p hp => q _ _ (.newL s hp h3)⟩
    · cases hz
  · cases hz
theorem hu66 {A : Around} {k : Nat} (hr : Rm k A) : A.units + 66 < cLine := by have := hr.r.un; omega
end
end G
end L2
namespace L2
namespace G
open PySem PySem.Spec PyProof.Rows
/-! ### a law's draw: what _law_draw and law promise -/
def absI (i : Int) : Int := if i < 0 then -i else i
def spDraw (K : PySem.W.Frag) : Sp := fun vs H Q _ => ∃ (a : Addr) (ns : List Int), vs = [.ref a] ∧ SqL K H a (ns.map V.int) ∧ ns.length ≤ 63 ∧
  ∀ (r c : Addr) (H' : Hp) (seed : Int), Same H H' → H r = none → H c = none → r ≠ c → H' r = some (.lst [.ref c, .int (-1), .int 0, .int seed]) → H' c = some (.lst (ns.map fun n => V.int (absI n))) → 0 ≤ seed → seed < 2147483647 → Q (.ref r) H'
def spLaw (K : PySem.W.Frag) : Sp := fun vs H Q _ => ∃ (a : Addr) (ns : List Int), vs = [.ref a] ∧ SqL K H a (ns.map V.int) ∧ ns.length ≤ 63 ∧ ∀ H', Q (.bl true) H'
/-! the end: law called with the script, no repr under way -/
section
variable {P : Program} {w : World} {K : PySem.W.Frag} {mg mb : Str → Option Value} {k : Nat} {fa a : Addr} {fd : FuncData} {x : Str} {sp : Sp} {s₁ : Shared} {vs : List Value} {ns : List Int}
/-- the wanted end -/
abbrev EndOk (s₁ : Shared) : Result → Shared → Prop := fun r s' => r = .ok (.ret (.bool true)) ∧ OldK s₁.heap s'.heap ∧ s'.os = s₁.os ∧ AllBare s'.gens
theorem call_core {H : Hp} (KX : K.In s₁.heap) (hns : s₁.heap.Ns mainGlobals mg) (hb : s₁.heap.Ns builtinsNs mb) (hbb : ∀ x : Str, x ≠ "__name__" → mb x = bootBuiltins x) (hlim : s₁.heap.NoLimit) (hg : s₁.gens = #[])
    (ha : ∃ o : Obj, s₁.heap.get? a = some o ∧ ∃ ws n, o.data = .seq ws n) (hr : Rm k callerA) (F : ∀ base : Heap, K.In base → base.Ns mainGlobals mg → FnG P w K mg base k fa fd [x] sp) (hbind : ∀ (s : Shared) (u : Value), BindsTo s fd ⟨[u], []⟩ [(x, u)])
    (hsp : sp [.ref a] H (fun v _ => v = .bl true) fun _ _ _ => False) (hO : Only H) (hok : HOk P w H s₁.heap) (hA : ∀ b, H b ≠ none → b = a) (hK : H a ≠ none → K.lookup a = none) :
    codeAny (model P w) callerA (.call (.ref fa) ⟨[.ref a], []⟩) (EndOk s₁) s₁ := by
  have free : ∀ {b : Addr}, b ≠ a → H b = none := fun {b} n => Classical.byContradiction fun z => n (hA b z)
  have noA : ∀ {b : Addr} {o : Obj} {es : Array DictEntry} {ep : Nat}, s₁.heap.get? b = some o → o.data = .dict es ep → H b = none := by
    intro b o es ep e d
    apply free
    rintro rfl
    obtain ⟨o', ho, ws, n, hd⟩ := ha
    rw [e] at ho; cases ho
    rw [d] at hd; cases hd
  have up : ∀ {b : Addr} {m : Str → Option Value}, s₁.heap.Ns b m → (hidT s₁.heap H).Ns b m := by
    rintro b m ⟨o, es, ep, e, d, r⟩
    exact ⟨o, es, ep, hidT_get e (noA e d), d, r⟩
  have hKb : K.In (hidT s₁.heap H) := by
    intro b o e
    refine hidT_get (KX b o e) (Classical.byContradiction fun z => ?_)
    have hb := hA b z
    subst hb
    rw [hK z] at e; cases e
  have hM : Mod K mg (hidT s₁.heap H) := by
    obtain ⟨mc, h1, h2⟩ := hlim
    exact ⟨hKb, up hns, ⟨mb, up hb, hbb⟩, ⟨mc, up h1, h2⟩⟩
  have e0 : Env0 P w K mg (hidT s₁.heap H) callerA [] s₁ H := {
    frames := rfl
    mod := hM
    bs := fun b o e => of_hidT e
    bsz := Nat.le_of_eq (hidT_size _ _)
    funs := trivial
    frf := fun b hb => by simp [frs] at hb
    hok := hok
    bare := .of_eq hg }
  have run := (F _ hKb (up hns)).run callerA [] s₁ H ⟨[.ref a], []⟩ [.ref a] [.ref a] _ _ hr e0 (hbind s₁ (.ref a)) (.cons rfl .nil) hsp
  refine codeAny_mono run fun r s' h => ?_
  match r, h with
  | .error e, h =>
    obtain ⟨_, _, _, _, _, _, _, _, _, _, _, _, z⟩ := h
    exact z.elim
  | .ok (.ret u), ⟨v, H', os, bare, un, hok', r', q⟩ =>
    obtain rfl : v = .bl true := q
    obtain rfl : u = Value.bool true := r'
    refine ⟨rfl, OldK.of_keep fun b o e => ?_, os, bare⟩
    rcases hO b with q | ⟨ob, xs, z⟩
    · exact un.keep b o e q (by simp [frs]) (by simp)
    · have e1 := (hok b _ z).1
      have e2 := (hok' b _ (un.frzs b ob _ z)).1
      rw [e] at e1; cases e1
      exact e2
theorem law_callG (KX : K.In s₁.heap) (hns : s₁.heap.Ns mainGlobals mg) (hb : s₁.heap.Ns builtinsNs mb) (hbb : ∀ x : Str, x ≠ "__name__" → mb x = bootBuiltins x) (hlim : s₁.heap.NoLimit) (hg : s₁.gens = #[])
    (ha : s₁.heap.get? a = some { cls := .type "list", data := .seq vs.toArray }) (hi : IntsAre vs ns) (hl : ns.length ≤ sizeLine) (hr : Rm k callerA) (F : ∀ base : Heap, K.In base → base.Ns mainGlobals mg → FnG P w K mg base k fa fd [x] sp) (hbind : ∀ (s : Shared) (u : Value), BindsTo s fd ⟨[u], []⟩ [(x, u)])
    (hsp : ∀ H : Hp, SqL K H a (ns.map V.int) → sp [.ref a] H (fun v _ => v = .bl true) fun _ _ _ => False) : codeAny (model P w) callerA (.call (.ref fa) ⟨[.ref a], []⟩) (EndOk s₁) s₁ := by
  have rv : Vals (ns.map V.int) vs := vals_ints hi
  have ha' : ∃ o : Obj, s₁.heap.get? a = some o ∧ ∃ ws n, o.data = .seq ws n := ⟨_, ha, _, _, rfl⟩
  cases hk : K.lookup a with
  | some o =>
    have e := KX a o hk
    rw [ha] at e; cases e
    refine call_core (H := fun _ => none) KX hns hb hbb hlim hg ha' hr F hbind (hsp _ (.inr ⟨_, vs.toArray, _, hk, rfl, rfl, rfl, ?_, by simpa using rv⟩)) (fun _ => .inl rfl) (fun b u z => by cases z) (fun b z => absurd rfl z) (fun z => absurd rfl z)
    rw [List.size_toArray, hi.length]; exact hl
  | none =>
    let H0 : Hp := fun b => if b = a then some (.frz { cls := .type "list", data := .seq vs.toArray } (.lst (ns.map V.int))) else none
    have at_ : H0 a = some (.frz { cls := .type "list", data := .seq vs.toArray } (.lst (ns.map V.int))) := if_pos rfl
    have off : ∀ {b}, b ≠ a → H0 b = none := fun n => if_neg n
    refine call_core (H := H0) KX hns hb hbb hlim hg ha' hr F hbind (hsp _ (.inl (.inr ⟨_, at_⟩))) (fun b => ?_) (fun b u z => ?_) (fun b z => Classical.byContradiction fun n => z (off n)) fun _ => hk
    · by_cases hb : b = a
      · subst hb; exact .inr ⟨_, _, at_⟩
      · exact .inl (off hb)
    · by_cases hb : b = a
      · subst hb
        rw [at_] at z; cases z
        exact ⟨ha, by rw [List.length_map]; exact hl, vs, _, rv, ha⟩
      · rw [off hb] at z; cases z
theorem walk_G {l : PySem.W.OpenLaw} {n : Nat} {q : Program} {loose : List Str} {XP : (Str → Option Value) → Heap → Prop} {YP : World → Heap → Prop} {d : DefRec} {K : Params → PySem.W.Frag} {sp : PySem.W.Frag → Sp} (hn : l.most = some n) (hn2 : n ≤ sizeLine) (hdf : d.params.defaults = []) (hr : Rm k callerA) (hY : ∀ (w : World) (h : Heap), YP w h → (K w.params).In h)
    (F : ∀ (w : World) (mg : Str → Option Value) (fa : Addr) (h : Heap), (K w.params).In h → h.Ns mainGlobals mg → mg d.name = some (.ref fa) →
      ∃ fd : FuncData, (∀ (s : Shared) (u : Value), BindsTo s fd ⟨[u], []⟩ [(x, u)]) ∧ ∀ base : Heap, (K w.params).In base → base.Ns mainGlobals mg → FnG l.prog w (K w.params) mg base k fa fd [x] (sp (K w.params)))
    (hsp : ∀ (K : PySem.W.Frag) (H : Hp) (a : Addr) (ns : List Int), ns.length ≤ n → SqL K H a (ns.map V.int) → sp K [.ref a] H (fun v _ => v = .bl true) fun _ _ _ => False) : PySem.W.WalkO q loose XP YP l.row.toRowW d [] (fun f vs => PySem.call f vs) := by
  apply Att.attach_call hn hdf
  intro w s₀ s₁ mg mb fa o pm cd doc a vs ns G Y ho hd hcd hmg hobj hints hlen hg
  obtain ⟨fd, hb, hF⟩ := F w mg fa _ (hY w _ Y) G.T.g hmg
  exact law_callG (hY w _ Y) G.T.g G.T.b G.T.builtins G.T.nolimit hg hobj hints (Nat.le_trans hlen hn2) hr hF hb
    fun H hS => hsp _ H a ns hlen hS
end
theorem same_new {H : Hp} {p : Addr} (h : H p = none) (o : HO) : Same H (upd H p o) := fun b u q => by rw [upd_ne (ne_of_none q h)]; exact q
theorem log2_small {i : Int} (h0 : 0 ≤ i) (h : i < 2 ^ 40) : i.natAbs.log2 < 41 := by
  by_cases z : i.natAbs = 0
  · rw [z]; decide
  · rw [Nat.log2_lt z]
    omega
theorem seed_mul {i : Int} (h0 : 0 ≤ i) (h : i < 2147483647) : CMulW i 48271 := by
  show _ < _
  have := log2_small h0 (by omega)
  have e : (48271 : Int).natAbs.log2 < 41 := by decide
  omega
/-- the state behind _law_draw, as own data -/
theorem draw_sim {K : PySem.W.Frag} {H : Hp} {r c a : Addr} {ns : List Int} {seed : Int} {n : Nat} (hrc : r ≠ c) (hr : H r = some (.lst [.ref c, .int (-1), .int 0, .int seed])) (hc : H c = some (.lst (ns.map fun n => V.int (absI n)))) :
    Sim K (fun _ => False) (some (V.ref a) :: some (V.ref r) :: List.replicate n none) H (.un :: .ow true (.list [.list (ns.map fun n => .int (absI n)), .int (-1), .int 0, .int seed]) :: List.replicate n .un) := by
  have look : ∀ {i : Nat} {y : Sl}, (Sl.un :: Sl.ow true (.list [.list (ns.map fun n => .int (absI n)), .int (-1), .int 0, .int seed]) :: List.replicate n Sl.un)[i]? = some y → y = .un ∨ (i = 1 ∧ y = Sl.ow true (.list [.list (ns.map fun n => .int (absI n)), .int (-1), .int 0, .int seed])) := fun {i y} h => by
    match i, h with
    | 0, h => exact .inl (Option.some.inj h).symm
    | 1, h => exact .inr ⟨rfl, (Option.some.inj h).symm⟩
    | i + 2, h => exact .inl (un_none h)
  have ri : ∀ {B : Addr → Prop} (ms : List Int), Reps K H B (ms.map fun n => V.int (absI n)) (ms.map fun n => PyData.int (absI n)) := fun {B} ms => by
    induction ms with
    | nil => exact .nil
    | cons m ms ih => exact .cons (.int _) ih
  refine ⟨by simp, fun i d h => ?_, fun i w d h => ?_, fun i j w w' d d' b h1 h2 h3 h4 => ?_, fun _ z => z.elim⟩
  · rcases look h with z | ⟨_, z⟩ <;> cases z
  · rcases look h with z | ⟨rfl, z⟩
    · cases z
    · cases z
      refine ⟨r, rfl, fun z => z, .lst hr (.cons (.lst hc ?_ (ri ns)) (.cons (.int _) (.cons (.int _) (.cons (.int _) .nil))))⟩
      rintro (⟨j, w', d', q1, q2⟩ | z)
      · rcases look q1 with z | ⟨rfl, z⟩
        · cases z
        · have : V.ref r = V.ref c := Option.some.inj (Option.some.inj q2)
          cases this; exact hrc rfl
      · exact z
  · rcases look h1 with z | ⟨z1, _⟩
    · cases z
    · rcases look h2 with z | ⟨z2, _⟩
      · cases z
      · rw [z1, z2]
end G
end L2
namespace L2
namespace G
open PySem PySem.Spec PyProof.Rows
/-! ### running the functions: simp lemmas -/
theorem ix_at {ds : List D} {j : Nat} {y : D} (hx : ds[j]? = some y) : fIxA (.list ds) (.int j) = some ⟨y, false⟩ := by
  unfold fIxA fIx
  simp only
  rw [atI_nat hx]; rfl
section
variable {α β : Type} {a : α} {x : Exn} {e e1 : En} {d : D} {r : Rs} {fl : Fl} {f h : XF} {g : En → Res D} {ga : En → Res (List D)} {F : D → D → Option Rs} {U : D → Option Rs} {s t : SF} {i n : Nat} {c : En → Res Bool}
@[simp] theorem bind_ok {k : α → En → Res β} : (Res.ok a e).bind k = k a e := rfl
@[simp] theorem bind_ex {k : α → En → Res β} : (Res.ex x : Res α).bind k = .ex x := rfl
@[simp] theorem bind_st {k : α → En → Res β} : (Res.st : Res α).bind k = .st := rfl
theorem xC_ap : xC d e = .ok ⟨d, false⟩ e := rfl
theorem xO_ap : xO f e = (f e).bind fun r e' => .ok r.d e' := rfl
theorem xV_sh (hx : e[i]? = some (.sh d)) : xV i e = .ok ⟨d, false⟩ e := by unfold xV; rw [hx]
theorem xB_sh (hx : e[i]? = some (.sh d)) : xB i e = .ok d e := by unfold xB; rw [hx]
theorem xB_ow {w : Bool} (hx : e[i]? = some (.ow w d)) : xB i e = .ok d e := by unfold xB; rw [hx]
theorem fEq_int {i j : Int} : fEq (.int i) (.int j) = sb (decide (i = j)) := by
  have h1 : SeqAt.shaped (.int i) = true := by simp [SeqAt.shaped, PyData.canLay0, PyData.depth]
  have h2 : SeqAt.shaped (.int j) = true := by simp [SeqAt.shaped, PyData.canLay0, PyData.depth]
  unfold fEq
  rw [h1, h2]
  simp [PyData.eqv]
  rfl
end
section
variable {a b c d : D} {ds : List D}
theorem ix0 : fIxA (.list (a :: ds)) (.int 0) = some ⟨a, false⟩ := ix_at (j := 0) rfl
theorem ix1 : fIxA (.list (a :: b :: ds)) (.int 1) = some ⟨b, false⟩ := ix_at (j := 1) rfl
theorem ix2 : fIxA (.list (a :: b :: c :: ds)) (.int 2) = some ⟨c, false⟩ := ix_at (j := 2) rfl
theorem ix3 : fIxA (.list (a :: b :: c :: d :: ds)) (.int 3) = some ⟨d, false⟩ := ix_at (j := 3) rfl

end
theorem log2_le {n k : Nat} (h : n < 2 ^ k) (hk : 0 < k) : n.log2 < k := by
  by_cases z : n = 0
  · rw [z]; exact Nat.lt_of_le_of_lt (by decide : Nat.log2 0 ≤ 0) hk
  · exact (Nat.log2_lt z).mpr h
/-! ### a law's draw -/
structure Dr (cs : List Int) (at_ cur seed : Int) : Prop where
  pos : ∀ c ∈ cs, 0 ≤ c
  len : cs.length ≤ 63
  at_ : -1 ≤ at_
  cur : 0 ≤ cur
  s0 : 0 ≤ seed
  s1 : seed < 2147483647
def drD (cs : List Int) (at_ cur seed : Int) : D := .list [.list (cs.map .int), .int at_, .int cur, .int seed]
end G
end L2
namespace L2
namespace G
open PySem PySem.Spec PyProof.Rows
section
variable {α : Type} {f g : SF} {e e1 e2 w : En} {ds acc : List D} {vs : List Nat} {gg : Rs → En → Option En} {tt : En → Res Bool} {te : XF} {it : En → Res (List D)} {b : SF}
theorem seq_nx (h : f e = .ok .nx e1) : sSeq f g e = g e1 := by unfold sSeq; rw [h]; rfl
theorem if_tt {t : En → Res Bool} (h : t e = .ok true e1) : sIf t f g e = f e1 := by unfold sIf; rw [h]; rfl
theorem if_ff {t : En → Res Bool} (h : t e = .ok false e1) : sIf t f g e = g e1 := by unfold sIf; rw [h]; rfl
/-- a loop under an invariant, that is not left early -/
theorem floop_inv {I : En → Prop} (h : ∀ d ∈ ds, ∀ e, I e → ∃ e1 e2, gg ⟨d, false⟩ e = some e1 ∧ (b e1 = .ok .nx e2 ∨ b e1 = .ok .ct e2) ∧ I e2) : ∀ e, I e → ∃ e', floop gg b ds e = .ok .nx e' ∧ I e' := by
  induction ds with
  | nil => intro e i; exact ⟨e, rfl, i⟩
  | cons d ds ih =>
    intro e i
    obtain ⟨e1, e2, h1, h2, h3⟩ := h d List.mem_cons_self e i
    obtain ⟨e', h4, h5⟩ := ih (fun d m => h d (List.mem_cons_of_mem _ m)) e2 h3
    refine ⟨e', ?_, h5⟩
    unfold floop
    rw [h1]
    rcases h2 with h2 | h2 <;> (simp only [h2, bind_ok]; exact h4)
theorem for_inv {I : En → Prop} (hi : it e = .ok ds e1) (h0 : I e1) (h : ∀ d ∈ ds, ∀ e, I e → ∃ e1 e2, gg ⟨d, false⟩ e = some e1 ∧ (b e1 = .ok .nx e2 ∨ b e1 = .ok .ct e2) ∧ I e2) : ∃ e', sFor it gg b e = .ok .nx e' ∧ I e' := by
  obtain ⟨e', h1, h2⟩ := floop_inv h e1 h0
  exact ⟨e', by unfold sFor; rw [hi]; exact h1, h2⟩
/-- a comprehension under an invariant -/
theorem lc_inv {I : List D → En → Prop} (h : ∀ d ∈ ds, ∀ acc e, I acc e → ∃ e1 e2 r fr e3, gg ⟨d, false⟩ (wipeE e vs) = some e1 ∧ tt e1 = .ok true e2 ∧ te e2 = .ok ⟨r, fr⟩ e3 ∧ I (acc ++ [r]) e3) : ∀ acc e, I acc e → acc.length + ds.length ≤ most → ∃ ys e', lcLoop gg tt te vs ds acc e = .ok ys e' ∧ I ys e' := by
  induction ds with
  | nil => intro acc e i _; exact ⟨acc, e, rfl, i⟩
  | cons d ds ih =>
    intro acc e i hl
    obtain ⟨e1, e2, r, fr, e3, h1, h2, h3, h4⟩ := h d List.mem_cons_self acc e i
    simp only [List.length_cons] at hl
    obtain ⟨ys, e', h5, h6⟩ := ih (fun d m => h d (List.mem_cons_of_mem _ m)) (acc ++ [r]) e3 h4 (by simp; omega)
    refine ⟨ys, e', ?_, h6⟩
    unfold lcLoop
    simp only [h1, h2, h3]
    rw [if_pos (by omega)]
    exact h5
/-- a comprehension whose turns leave the other slots as they are -/
theorem lc_map (us : List α) (u v : α → D) (p : α → Bool) (h : ∀ a ∈ us, ∃ e1 e2, gg ⟨u a, false⟩ w = some e1 ∧ tt e1 = .ok (p a) e2 ∧ (p a = true → ∃ fr e3, te e2 = .ok ⟨v a, fr⟩ e3 ∧ wipeE e3 vs = w ∧ e3.length = w.length) ∧ (p a = false → wipeE e2 vs = w ∧ e2.length = w.length)) :
    ∀ acc e, wipeE e vs = w → acc.length + us.length ≤ most → ∃ e', lcLoop gg tt te vs (us.map u) acc e = .ok (acc ++ (us.filter p).map v) e' ∧ wipeE e' vs = w := by
  induction us with
  | nil => intro acc e hw _; exact ⟨e, by simp [lcLoop], hw⟩
  | cons a us ih =>
    intro acc e hw hl
    simp only [List.length_cons] at hl
    obtain ⟨e1, e2, h1, h2, h3, h4⟩ := h a List.mem_cons_self
    have ih' := ih fun a m => h a (List.mem_cons_of_mem _ m)
    rw [List.map_cons]
    unfold lcLoop
    rw [hw, h1]
    cases hp : p a with
    | true =>
      obtain ⟨fr, e3, h5, h6, _⟩ := h3 hp
      obtain ⟨e', h7, h8⟩ := ih' (acc ++ [v a]) e3 h6 (by simp; omega)
      refine ⟨e', ?_, h8⟩
      rw [hp] at h2
      simp only [h2, h5]
      rw [if_pos (by omega), h7, List.filter_cons_of_pos hp]
      simp
    | false =>
      obtain ⟨h6, _⟩ := h4 hp
      obtain ⟨e', h7, h8⟩ := ih' acc e2 h6 (by omega)
      refine ⟨e', ?_, h8⟩
      rw [hp] at h2
      simp only [h2]
      rw [h7, List.filter_cons_of_neg (by rw [hp]; decide)]
theorem resE_same {e1 e2 : En} {vs : List Nat} (h : wipeE e2 vs = wipeE e1 vs) : resE e1 e2 vs = e1 := by
  have hl : e2.length = e1.length := by rw [← wipeE_length (e0 := e2) vs, h, wipeE_length]
  apply List.ext_getElem?
  intro i
  by_cases hi : i < e1.length
  · have h1 : i < (resE e1 e2 vs).length := by rw [resE_length, hl]; exact hi
    have q : (resE e1 e2 vs)[i]? = some (resE e1 e2 vs)[i] := List.getElem?_eq_getElem h1
    rcases resE_some q hl.symm with ⟨z1, z2⟩ | ⟨z1, z2⟩
    · rw [q, z2]
    · rw [q, ← z2, ← wipeE_out (e0 := e2) z1, h, wipeE_out z1]
  · rw [List.getElem?_eq_none (by rw [resE_length, hl]; omega), List.getElem?_eq_none (by omega)]
theorem xLc_map (us : List α) (u v : α → D) (p : α → Bool) (hi : it e = .ok (us.map u) e1) (ok : okW e1 vs = true) (hl : us.length ≤ most)
    (h : ∀ a ∈ us, ∃ e2 e3, gg ⟨u a, false⟩ (wipeE e1 vs) = some e2 ∧ tt e2 = .ok (p a) e3 ∧ (p a = true → ∃ fr e4, te e3 = .ok ⟨v a, fr⟩ e4 ∧ wipeE e4 vs = wipeE e1 vs ∧ e4.length = (wipeE e1 vs).length) ∧ (p a = false → wipeE e3 vs = wipeE e1 vs ∧ e3.length = (wipeE e1 vs).length)) :
    xLc it gg tt te vs e = .ok ⟨.list ((us.filter p).map v), true⟩ e1 := by
  obtain ⟨e', h1, h2⟩ := lc_map us u v p h [] e1 rfl (by simpa using hl)
  unfold xLc
  rw [hi, bind_ok, if_pos ok, h1, bind_ok, resE_same h2]
  rfl
end
/-! lists of bools, of texts -/
theorem boolsD_map {α : Type} (us : List α) (q : α → Bool) : boolsD (us.map fun a => .bool (q a)) = some (us.map q) := by
  induction us with
  | nil => rfl
  | cons a us ih => simp [boolsD, ih]
theorem fAny_map {α : Type} (us : List α) (q : α → Bool) : fAny (.list (us.map fun a => .bool (q a))) = sb (us.any q) := by
  simp only [fAny, boolsD_map, Option.map_some]
  rw [List.any_map]; rfl
theorem fAll_map {α : Type} (us : List α) (q : α → Bool) : fAll (.list (us.map fun a => .bool (q a))) = sb (us.all q) := by
  simp only [fAll, boolsD_map, Option.map_some]
  rw [List.all_map]; rfl
theorem strs_lay : ∀ ts : List Str, (∀ t ∈ ts, PyData.strOk t = true) → PyData.canLayAll0 (ts.map .str) = true ∧ PyData.depthAll (ts.map .str) = 0 ∧ PyData.eqvAll (ts.map .str) (ts.map .str) = true
  | [], _ => by simp [PyData.canLayAll0, PyData.depthAll, PyData.eqvAll]
  | t :: ts, h => by
    obtain ⟨h1, h2, h3⟩ := strs_lay ts fun t m => h t (List.mem_cons_of_mem _ m)
    simp [PyData.canLayAll0, PyData.canLay0, PyData.depthAll, PyData.depth, PyData.eqvAll, PyData.eqv, h1, h2, h3, h t List.mem_cons_self]
theorem fNe_strs (ts : List Str) (h : ∀ t ∈ ts, PyData.strOk t = true) : fNe (.tuple (ts.map .str)) (.tuple (ts.map .str)) = sb false := by
  obtain ⟨h1, h2, h3⟩ := strs_lay ts h
  have hs : SeqAt.shaped (.tuple (ts.map .str)) = true := by simp [SeqAt.shaped, PyData.canLay0, PyData.depth, h1, h2]
  unfold fNe
  rw [hs]
  simp [PyData.eqv, h3]
/-- a call of _law_take -/
theorem take_call {φ : XF} {i : Nat} {cs : List Int} {a c s m f a' c' s' : Int} {e : En} {g : En → Res (List D)} (hx : e[i]? = some (.ow true (drD cs a c s))) (hg : g e = .ok [.int m] e) (h : φ [.ow true (drD cs a c s), .sh (.int m)] = .ok ⟨.int f, false⟩ [.ow true (drD cs a' c' s'), .sh (.int m)]) :
    xCallD i 1 φ g e = .ok ⟨.int f, false⟩ (e.set i (.ow true (drD cs a' c' s'))) := by
  have ho : ownL i e = some [.list (cs.map .int), .int a, .int c, .int s] := by unfold ownL; rw [hx]; rfl
  unfold xCallD
  rw [ho, hg]
  simp only [Option.isSome_some, if_true, bind_ok, List.length_cons, List.length_nil, Nat.zero_add, ho, List.map_cons, List.map_nil]
  unfold drD at h
  rw [h]
  rfl
end G
end L2
namespace L2
namespace G
open PySem PySem.Spec PyProof.Rows
section
variable {α : Type} {f g : SF} {e e1 e2 w : En} {ds acc : List D} {vs : List Nat} {gg : Rs → En → Option En} {tt : En → Res Bool} {te : XF} {it : En → Res (List D)} {b : SF}
theorem xLc_all (us : List α) (u v : α → D) (hi : it e = .ok (us.map u) e1) (ok : okW e1 vs = true) (hl : us.length ≤ most)
    (h : ∀ a ∈ us, ∃ e2 e3 fr e4, gg ⟨u a, false⟩ (wipeE e1 vs) = some e2 ∧ tt e2 = .ok true e3 ∧ te e3 = .ok ⟨v a, fr⟩ e4 ∧ wipeE e4 vs = wipeE e1 vs) : xLc it gg tt te vs e = .ok ⟨.list (us.map v), true⟩ e1 := by
  have := xLc_map us u v (fun _ => true) hi ok hl fun a ha => by
    obtain ⟨e2, e3, fr, e4, h1, h2, h3, h4⟩ := h a ha
    refine ⟨e2, e3, h1, h2, fun _ => ⟨fr, e4, h3, h4, ?_⟩, fun z => by cases z⟩
    rw [← wipeE_length (e0 := e4) vs, h4]
  rwa [List.filter_eq_self.mpr fun _ _ => rfl] at this
theorem xLk_some {r : Rs} {F : XF} {i : Nat} (h : F e = .ok r e1) (hr : relock e e1 i = e2) : xLk (some i) F e = .ok r e2 := by
  show (F e).bind _ = _
  rw [h]
  show Res.ok r (relock e e1 i) = _
  rw [hr]
end
section
variable {e e1 e2 : En} {r z : Rs} {d d0 d1 : D} {f : XF} {g : En → Res D} {ga : En → Res (List D)} {F : D → D → Option Rs} {U : D → Option Rs} {b fr : Bool} {t : En → Res Bool} {i n : Nat} {gg : Rs → En → Option En} {φ : XF} {ds : List D} {ec : En}
theorem xO_of (h : f e = .ok r e1) : xO f e = .ok r.d e1 := by unfold xO; rw [h]; rfl
theorem xOne_of (h : g e = .ok d e1) (hF : U d = some r) : xOne U g e = .ok r e1 := by
  show (g e).bind _ = _
  rw [h, bind_ok]
  simp only [hF]
theorem tTru_of (h : g e = .ok d e1) (ht : truD d = some b) : tTru g e = .ok b e1 := by
  show (g e).bind _ = _
  rw [h, bind_ok]
  simp only [ht]
theorem tNotT_of (h : t e = .ok b e1) : tNotT t e = .ok (!b) e1 := by
  show (t e).bind _ = _
  rw [h]; rfl
theorem xTest_of (h : f e = .ok ⟨.bool b, fr⟩ e1) : xTest f e = .ok b e1 := by
  show (f e).bind _ = _
  rw [h]; rfl
theorem sRet_of (h : f e = .ok r e1) : sRet f e = .ok (.rt r) e1 := by
  show (f e).bind _ = _
  rw [h]; rfl
theorem sAsg_of (h : f e = .ok r e1) (hg : gg r e1 = some e2) : sAsg f gg e = .ok .nx e2 := by
  show (f e).bind _ = _
  rw [h, bind_ok]
  simp only [hg]
theorem xOp_ex (h : f e = .ok r e1) (h2 : g e1 = .ok d e2) (hF : F r.d d = some z) : xOp F (.ex f) g e = .ok z e2 := by
  show (f e).bind _ = _
  rw [h, bind_ok]
  show (g e1).bind _ = _
  rw [h2, bind_ok]
  simp only [hF]
theorem xOp_br {d2 : D} (h : xB i e = .ok d0 e) (h2 : g e = .ok d e2) (h3 : xB i e2 = .ok d2 e2) (hF : F d2 d = some z) : xOp F (.br i) g e = .ok z e2 := by
  show (xB i e).bind _ = _
  rw [h, bind_ok]
  show (g e).bind _ = _
  rw [h2, bind_ok]
  show (xB i e2).bind _ = _
  rw [h3, bind_ok]
  simp only [hF]
theorem xCall0_of (h : ga e = .ok ds e1) (hn : ds.length = n) (hφ : φ (ds.map .sh) = .ok r ec) : xCall0 n φ ga e = .ok r e1 := by
  show (ga e).bind _ = _
  rw [h, bind_ok, if_pos hn, hφ]
theorem xCons_of (h : f e = .ok r e1) (h2 : ga e1 = .ok ds e2) : xCons f ga e = .ok (r.d :: ds) e2 := by
  show (f e).bind _ = _
  rw [h, bind_ok, h2]; rfl
theorem iR1_of {j : Int} (h : ga e = .ok [.int j] e1) (hn : near j = true) : iR1 ga e = .ok (iseq 0 1 j.toNat) e1 := by
  show (ga e).bind _ = _
  rw [h, bind_ok]
  show (if near j = true then _ else _) = _
  rw [if_pos hn]
theorem xLk_no (h : f e = .ok r e1) : xLk none f e = .ok r e1 := h
theorem xIf_ff {g2 : XF} (h : t e = .ok false e1) : xIf t f g2 e = g2 e1 := by
  show (t e).bind _ = _
  rw [h]; rfl
theorem xIf_tt {g2 : XF} (h : t e = .ok true e1) : xIf t f g2 e = f e1 := by
  show (t e).bind _ = _
  rw [h]; rfl
theorem fnD_rt {body : SF} {pat : List Bool} {e' eb : En} (h : body (e ++ List.replicate n .un) = .ok (.rt r) eb) (hb : backP pat e eb = some e') : fnD body pat n e = .ok r e' := by
  unfold fnD
  rw [h]
  simp only [hb]
theorem fnD_nx {body : SF} {pat : List Bool} {e' eb : En} (h : body (e ++ List.replicate n .un) = .ok .nx eb) (hb : backP pat e eb = some e') : fnD body pat n e = .ok ⟨.none, false⟩ e' := by
  unfold fnD
  rw [h]
  simp only [hb]
end
section
variable {e e1 e2 : En} {ds : List D} {vs : List Nat} {gg : Rs → En → Option En} {tt : En → Res Bool} {te : XF} {it : En → Res (List D)}
def nO : Sl → Bool | .ow _ _ => false | _ => true
theorem okW_one {i : Nat} {s : Sl} (h : e[i]? = some s) (hs : nO s = true) : okW e [i] = true := by
  unfold okW
  simp only [List.all_cons, List.all_nil, Bool.and_true, h]
  cases s with
  | ow _ _ => cases hs
  | _ => rfl
/-- a comprehension whose turns change the state -/
theorem lc_inv2 {I : List D → En → Prop} (h : ∀ d ∈ ds, ∀ acc e, I acc e → ∃ e1 e2 r fr e3, gg ⟨d, false⟩ (wipeE e vs) = some e1 ∧ tt e1 = .ok true e2 ∧ te e2 = .ok ⟨r, fr⟩ e3 ∧ I (acc ++ [r]) e3) : ∀ acc e, I acc e → acc.length + ds.length ≤ most → ∃ ys e', lcLoop gg tt te vs ds acc e = .ok ys e' ∧ I ys e' ∧ ys.length = acc.length + ds.length := by
  induction ds with
  | nil => intro acc e i _; exact ⟨acc, e, rfl, i, rfl⟩
  | cons d ds ih =>
    intro acc e i hl
    obtain ⟨e1, e2, r, fr, e3, h1, h2, h3, h4⟩ := h d List.mem_cons_self acc e i
    simp only [List.length_cons] at hl
    obtain ⟨ys, e', h5, h6, h7⟩ := ih (fun d m => h d (List.mem_cons_of_mem _ m)) (acc ++ [r]) e3 h4 (by simp; omega)
    refine ⟨ys, e', ?_, h6, by rw [h7]; simp; omega⟩
    unfold lcLoop
    simp only [h1, h2, h3]
    rw [if_pos (by omega)]
    exact h5
theorem xLc_inv {I : List D → En → Prop} (hi : it e = .ok ds e1) (ok : okW e1 vs = true) (hl : ds.length ≤ most) (h0 : I [] e1) (h : ∀ d ∈ ds, ∀ acc e, I acc e → ∃ e1 e2 r fr e3, gg ⟨d, false⟩ (wipeE e vs) = some e1 ∧ tt e1 = .ok true e2 ∧ te e2 = .ok ⟨r, fr⟩ e3 ∧ I (acc ++ [r]) e3) : ∃ ys e', xLc it gg tt te vs e = .ok ⟨.list ys, true⟩ (resE e1 e' vs) ∧ I ys e' ∧ ys.length = ds.length := by
  obtain ⟨ys, e', h1, h2, h3⟩ := lc_inv2 h [] e1 h0 (by simpa using hl)
  refine ⟨ys, e', ?_, h2, by simpa using h3⟩
  unfold xLc
  rw [hi, bind_ok, if_pos ok, h1, bind_ok]
theorem iseq_len {lo c : Int} {n : Nat} : (iseq lo c n).length = n := by simp [iseq]
end
theorem seq_ends {f g : SF} {e e1 : En} {v : D} (h : f e = .ok .nx e1) (k : ∃ e' fr, g e1 = .ok (.rt ⟨v, fr⟩) e') : ∃ e' fr, sSeq f g e = .ok (.rt ⟨v, fr⟩) e' := by rw [seq_nx h]; exact k
end G
end L2
namespace L2
namespace G
open PySem PySem.Spec PyProof.Rows
section
variable {C : Ct} {X : Cx} {K : PySem.W.Frag} {H : Hp} {B : Addr → Prop} {d : D} {v : V}
/-! ### repr(x) of data without dicts -/
def reprOk (d : D) : Bool := SeqAt.shaped d && d.showable && !d.hasDict && decide (d.shown.length ≤ most)
def fRepr : D → Option Rs := fun d => if reprOk d then some ⟨.str d.shown, false⟩ else none
def rRepr (K : PySem.W.Frag) : List V → Hp → VK → Prop := fun xs H Q => ∃ x d, xs = [x] ∧ Dp K H x d ∧ reprOk d = true ∧ Q (.str d.shown) H
theorem cr_repr {k : Nat} (hr : Rm k X.A) : CallR X (.builtin "repr") (rRepr X.K) := by
  intro pins s σ H xs us Q I r h
  obtain ⟨x, d, rfl, hd, ok, q⟩ := h
  obtain ⟨u, rfl, ru⟩ := vals1 r
  simp only [reprOk, Bool.and_eq_true, Bool.not_eq_true', decide_eq_true_eq] at ok
  obtain ⟨⟨⟨h1, h2⟩, h3⟩, h4⟩ := ok
  have hz : d.shown.length ≤ sizeLine := most_ok h4
  have un := hr.r.un
  have dep := SeqAt.depth_of_shaped h1
  have fin : ∀ (h' : Heap) (u : Tok) (tk : Nat), (∀ b o, s.heap.get? b = some o → h'.get? b = some o) → EP X pins σ Q (.str d.shown u) { s with heap := h', toks := tk } := fun h' u tk kp => ⟨.str d.shown, H, I.kept kp, ⟨u, rfl⟩, q⟩
  have fin1 : ∀ {z : Str}, d.shown = z → EP X pins σ Q (.str z s.toks) { s with toks := s.toks + 1 } := fun {z} e => by
    subst e; exact ⟨.str d.shown, H, I.tok _, ⟨_, rfl⟩, q⟩
  obtain ⟨as, rd⟩ := Dp.reads I d x u hd ru
  cases hd with
  | non => cases ru; exact PySem.P.repr_of_none (fin1 rfl)
  | bl b => cases ru; exact PySem.P.repr_of_bool (fin1 rfl)
  | int i =>
    obtain ⟨t, rfl⟩ := ru
    exact PySem.P.repr_of_int (by simpa [PyData.showable] using h2) (fin1 rfl)
  | str z =>
    obtain ⟨t, rfl⟩ := ru
    exact PySem.P.repr_of_str (fin1 rfl) hz
  | lst hs ha =>
    cases ru
    exact repr_of_reads' rd h2 (fun z => by rw [h3] at z; cases z) hr.g (by omega) (fun _ _ e => e) fin hz
  | tup hs ha =>
    cases ru
    exact repr_of_reads' rd h2 (fun z => by rw [h3] at z; cases z) hr.g (by omega) (fun _ _ e => e) fin hz
theorem ok_repr : UnOk C fRepr fun v => rRepr C.K [v] := by
  intro Bx σ H e0 d1 v1 z Q hz s o q
  unfold fRepr at hz
  split at hz
  · rename_i h
    cases hz
    have h' := h
    simp only [reprOk, Bool.and_eq_true] at h
    exact ⟨v1, d1, rfl, o.rdd.dp (SeqAt.canLay_of_shaped h.1.1.1), h', q _ _ (post_s s)⟩
  · cases hz
end
section
variable {C : Ct} {X : Cx} {W : WX} {K : PySem.W.Frag} {Bx By S B : Addr → Prop} {io : List Nat} {σ σ' σ1 σ2 : L2.St} {H H' H1 H2 : Hp} {e0 e' e1 e2 : En} {e a b : Expr} {pos : Pos} {d d' : D} {v : V} {st : Stmt} {r : Rs} {p : Addr} {ds : List D} {xs : List V}
/-! ### op= -/
def fAddS : D → D → Option Rs
  | .int i, .int j => si (i + j)
  | .str x, .str y => if x.length + y.length ≤ most then some ⟨.str (x ++ y), false⟩ else none
  | _, _ => none
abbrev rAddS : R2 := fun x y H Q => rI0 (fun i j => .int (i + j)) x y H Q ∨ ∃ i j, x = .str i ∧ y = .str j ∧ i.length + j.length ≤ sizeLine ∧ Q (.str (i ++ j)) H
theorem iop_addS : OpR X (inplaceOp .Add) rAddS := iop_add.or iop_add_str
theorem ok_addS : OpOk C fAddS rAddS := (okI0.or okCatS).eq fun x y => by
  cases x <;> cases y <;> first | rfl | (simp only [fAddS, fII, fCatS]; try (split <;> rfl))
/-! ### list(range(..)) -/
def fRg : Int → Int → Option Rs := fun a b => if near a && near b && decide ((b - a).toNat ≤ most) then some ⟨.list (iseq a 1 (b - a).toNat), true⟩ else none
theorem reps_rg {a b : Int} : Reps K H B (rgV a b) (iseq a 1 (b - a).toNat) := by
  have : ∀ l : List Nat, Reps K H B (l.map fun i => V.int (a + (i : Nat))) (l.map fun (i : Nat) => PyData.int (a + (i : Int) * 1)) := fun l => by
    induction l with
    | nil => exact .nil
    | cons i l ih => rw [List.map_cons, List.map_cons, Int.mul_one]; exact .cons (.int _) ih
  exact this _
theorem rg_post {a b : Int} {z : Rs} {Q : VK} (hz : fRg a b = some z) (s : Sim C.K Bx σ H e0) (q : ∀ v H', Post C.K Bx σ H e0 z e0 v H' → Q v H') : RgOk a b ∧ ∀ l, H l = none → Q (.ref l) (upd H l (.lst (rgV a b))) := by
  unfold fRg at hz
  split at hz
  · rename_i h
    cases hz
    simp only [Bool.and_eq_true, decide_eq_true_eq] at h
    obtain ⟨⟨h1, h2⟩, h3⟩ := h
    obtain ⟨n1, n2⟩ := near_of h1
    obtain ⟨n3, n4⟩ := near_of h2
    exact ⟨⟨n1, n2, n3, n4, Nat.le_trans h3 (by decide)⟩, fun l hl => q _ _ (.newL s hl reps_rg)⟩
  · cases hz
def xLr1 (g : En → Res D) : XF := fun e => (g e).bind fun d e1 => match d with
  | .int n => (match fRg 0 n with | some r => .ok r e1 | none => .st)
  | _ => .st
theorem ge_lr1 {g : En → Res D} {p p1 p2 : Pos} (hc : X.calm = true) (hg : Gl X "list") (hm : X.mg "list" = none) (hg2 : Gl X "range") (hm2 : X.mg "range" = none) (ha : GO C X W a g) (hs : starEach [a] X.env = (false, eval a X.env) :: starEach [] X.env := by rfl)
    (na : starEach [.Call (.Name "range" p1) [a] [] p2] X.env = (false, eval (.Call (.Name "range" p1) [a] [] p2) X.env) :: starEach [] X.env := by rfl) : GE C X W (.Call (.Name "list" p) [.Call (.Name "range" p1) [a] [] p2] [] pos) (xLr1 g) := by
  refine pe_imp (pe_listRg hc hg hm (prg_1 hg2 hm2 ha hs) na) fun σ H Q ⟨e, Bx, s, q⟩ => ⟨e, Bx, s, run_mono (bind_run q) (fun d e1 q v H1 p => ?_) fun _ z => z⟩
  cases d with
  | int n =>
    dsimp only at q
    cases z : fRg 0 n with
    | none => rw [z] at q; exact q.elim
    | some r =>
      rw [z] at q
      exact ⟨n, p.o.int, rg_post z p.s fun v H2 p2 => q v H2 (Post.after_o p p2)⟩
  | _ => exact q.elim
/-- list(range(a, b)): the ends are ints -/
def xLr2 (f : XF) (g : En → Res D) : XF := fun e => (f e).bind fun r e1 => match r.d with
  | .int i => (g e1).bind fun d e2 => (match d with
    | .int j => (match fRg i j with | some r => .ok r e2 | none => .st)
    | _ => .st)
  | _ => .st
theorem ge_lr2 {f : XF} {g : En → Res D} {p p1 p2 : Pos} (hc : X.calm = true) (hg : Gl X "list") (hm : X.mg "list" = none) (hg2 : Gl X "range") (hm2 : X.mg "range" = none) (ha : GE C X W a f) (hb : GO C X W b g) (hs : starEach [a, b] X.env = (false, eval a X.env) :: starEach [b] X.env := by rfl) (hs2 : starEach [b] X.env = (false, eval b X.env) :: starEach [] X.env := by rfl)
    (hp : (backTo p2 (starEach [b] X.env)).any (·.1) = false := by rfl) (na : starEach [.Call (.Name "range" p1) [a, b] [] p2] X.env = (false, eval (.Call (.Name "range" p1) [a, b] [] p2) X.env) :: starEach [] X.env := by rfl) :
    GE C X W (.Call (.Name "list" p) [.Call (.Name "range" p1) [a, b] [] p2] [] pos) (xLr2 f g) := by
  refine pe_imp (pe_listRg hc hg hm (prg_2 hg2 hm2 ha hb hs hs2 hp) na) fun σ H Q ⟨e, Bx, s, q⟩ => ⟨e, Bx, s, run_mono (bind_run q) (fun r e1 q v H1 p1 => ?_) fun _ z => z⟩
  obtain ⟨d, fr⟩ := r
  cases d with
  | int i =>
    have rp := p1.rp
    cases rp
    refine ⟨e1, Bx, p1.s, run_mono (bind_run q) (fun d e2 q w H2 p2 => ?_) fun _ z => EX.after z p1.fr p1.le⟩
    cases d with
    | int j =>
      dsimp only at q
      cases z : fRg i j with
      | none => rw [z] at q; exact q.elim
      | some r =>
        rw [z] at q
        exact ⟨i, j, rfl, p2.o.int, rg_post z p2.s fun v H3 p3 => q v H3 (p1.after (Post.after_o p2 p3))⟩
    | _ => exact q.elim
  | _ => exact q.elim
/-! ### for i, x in enumerate(xs), xs a list -/
def enumD (ds : List D) : List D := ds.zipIdx.map fun q => PyData.tuple [.int (q.2 : Nat), q.1]
theorem enumD_at {i : Nat} {y : D} (h : (enumD ds)[i]? = some y) : ∃ d, ds[i]? = some d ∧ y = .tuple [.int (i : Nat), d] := by
  unfold enumD at h
  rw [List.getElem?_map, List.getElem?_zipIdx] at h
  cases z : ds[i]? with
  | none => rw [z] at h; cases h
  | some d => rw [z] at h; simp at h; exact ⟨d, rfl, h.symm⟩
theorem wk_enum {l : Addr} (q : H1 l = some (.lst xs)) (nS : ¬ S l) (rs : Reps K H1 B xs ds) (hSB : ∀ a, S a → B a) : Wk K S B (Ite K l) H1 (enumD ds) := by
  intro H B' k hB i
  have q' : SqL K H l xs := sql_rd (k.keep l _ q nS)
  have rs' : Reps K H B' xs ds := rs.go (k.anti hSB) hB
  refine ⟨fun y hy => ?_, fun hl => ⟨xs, q', by rw [rs.length]; simpa [enumD] using hl⟩⟩
  obtain ⟨d, hd, rfl⟩ := enumD_at hy
  obtain ⟨x, hx, rx⟩ := rs'.getD hd
  refine ⟨⟨xs, x, q', hx⟩, fun w H' ⟨T, x', ew, hn, eH, he⟩ => ?_⟩
  have := he xs q'
  rw [hx] at this; cases this
  subst ew eH
  exact ⟨ext_new hn, .tup (.inl (.inl upd_same)) ((Reps.cons (.int _) (.cons rx .nil)).keep (.new hn))⟩
def iEn (f : XF) : En → Res (List D) := fun e => (f e).bind fun r e1 => match r.d with | .list ds => .ok (enumD ds) e1 | _ => .st
theorem gi_en {elts : List Expr} {kk : Nat} {tpos p : Pos} {f : XF} (hK : X.K = C.K) (hg : Gl X "enumerate") (hm : X.mg "enumerate" = none) (h : GE C X W a f) (hs : starEach [a] X.env = (false, eval a X.env) :: starEach [] X.env := by rfl) : GI C X W (.Tuple elts kk tpos) (.Call (.Name "enumerate" p) [a] [] pos) (iEn f) := by
  refine pi_imp (pi_enum hg hm (pa_cons h pa_nil hs) hs) fun σ H R ⟨e, Bx, s, q⟩ => ⟨e, Bx, s, run_mono (bind_run q) (fun r e1 q v H1 p => ?_) fun _ z => z⟩
  obtain ⟨d, fr⟩ := r
  have hp := p.rp
  cases d with
  | list ds =>
    cases hp with
    | @lst l xs _ qd nb rs =>
      refine ⟨l, xs, rfl, sql_rd qd, q _ H1 ⟨p.fr, p.le, p.s, ?_⟩⟩
      rw [hK]
      exact wk_enum qd (fun z => nb (.inl z.av)) rs fun a z => .inl z.av
  | _ => exact q.elim
/-- .. of a name: an own list is locked -/
def iEm (i : Nat) : En → Res (List D) := fun e => (xB i e).bind fun d _ => match d with | .list ds => .ok (enumD ds) (lockE e i) | _ => .st
theorem gi_em {i : Nat} {x : Str} {elts : List Expr} {kk : Nat} {tpos p np : Pos} (hK : X.K = C.K) (hg : Gl X "enumerate") (hm : X.mg "enumerate" = none) (hN : X.N[i]? = some x) (hv : Vis X.env.scope x) (hd : (x == ("__debug__" : Str)) = false := by decide) (hcd : (x == ("__classdict__" : Str)) = false := by decide)
    (hs : starEach [.Name x np] X.env = (false, eval (.Name x np) X.env) :: starEach [] X.env := by rfl) : GI C X W (.Tuple elts kk tpos) (.Call (.Name "enumerate" p) [.Name x np] [] pos) (iEm i) := by
  refine pi_imp (pi_enum hg hm (pa_cons (pe_var hN hv hd hcd) pa_nil hs) hs) fun σ H R ⟨e, Bx, s, q⟩ => ?_
  obtain ⟨d, v, hx, hv', o, q⟩ := look_run s q
  obtain ⟨s', le⟩ := lock_le s i
  have an : ∀ a, Avo Bx σ (lockE e i) a → Avo Bx σ e a := Avo.le le
  cases d with
  | list ds =>
    obtain ⟨l, xs, rfl, qd, rs⟩ := o.list
    refine ⟨_, hv', l, xs, rfl, sql_rd qd, q _ H ⟨.refl, le, s', ?_⟩⟩
    rw [hK]
    refine wk_enum qd (fun z => ?_) (rs.anti an) fun a z => .inl z.av
    unfold xB at hx
    split at hx
    · rename_i d' h1
      cases hx
      obtain ⟨v, r1, r2⟩ := s.sh i _ h1
      rw [hv'] at r1; cases r1
      cases r2 with | lst _ nb _ => exact nb (.inl (le.wr _ z).av)
    · rename_i w d' h1
      cases hx
      obtain ⟨j, d2, h2, h3⟩ := z
      have h2' : e[j]? = some (Sl.ow true d2) ∧ j ≠ i := by
        unfold lockE at h2
        rw [h1] at h2
        cases w with
        | true =>
          rcases set_look h2 with ⟨_, z⟩ | ⟨n, z⟩
          · cases z
          · exact ⟨z, n⟩
        | false =>
          refine ⟨h2, fun n => ?_⟩
          subst n; rw [h1] at h2; cases h2
      exact h2'.2 (s.inj j i _ _ _ _ l h2'.1 h1 h3 hv')
    · cases hx
  | _ => exact q.elim
def sForL (i : Nat) (it : En → Res (List D)) (g : Rs → En → Option En) (b : SF) : SF := fun e => (sFor it g b e).bind fun fl e2 => match fl with | .rt r => .ok (.rt r) e2 | fl => .ok fl (relock e e2 i)
/-- a loop over something that locks slot i -/
theorem gs_forL {i : Nat} {tg it : Expr} {body : List Stmt} {w : En → Res (List D)} {g : Rs → En → Option En} {f : SF} (hp : PassesOwn (model X.prog X.w) X.A X.env X.xe) (hc : X.calm = true) (hi : GI C X W tg it w) (hg : GG C X (i :: io) tg g) (hb : GSs C X W (i :: io) body f)
    (hs : ∀ x, foldedSetIterable it X.env x = pure x := by intro _; rfl) : GS C X W io (.For tg it body [] pos) (sForL i w g f) :=
  ps_imp (ps_for hp hc hi hg hb hs) fun Dd σ H ⟨e, Bx, s, q⟩ => for_run ⟨e, Bx, s, run_mono (bind_run q) (fun fl e2 q => by
    cases fl with
    | nx => exact fun σ' H' p => q σ' H' p.relock
    | ct => exact fun σ' H' p => q σ' H' p.relock
    | rt r => exact fun σ' v H' p => q σ' v H' ⟨p.k, p.av, p.is, p.new, fun j m => p.io j (List.mem_cons_of_mem _ m)⟩) fun _ z => z⟩
/-! xs.index(y) of a list, where y is there -/
def fIdx : D → D → Option Rs := fun x y => match x with
  | .list ds => if SeqAt.shaped (.list ds) && SeqAt.shaped y then (ds.findIdx? fun z => PyData.eqv z y).map fun j => ⟨.int (j : Nat), false⟩ else none
  | _ => none
def isL : D → Bool | .list _ => true | _ => false
theorem isL_ty {v : V} (h : isL d = true) (o : Opd K H B v d) : tyV K "list" v H := by
  cases d with
  | list ds =>
    obtain ⟨l, xs, rfl, q, _⟩ := o.list
    exact .inl ⟨rfl, xs, .inl (.inl q)⟩
  | _ => cases h
/-- a method of a list with one argument, the list is only read -/
def xLM (F : D → D → Option Rs) (l : Lf) (g : En → Res D) : XF := match l with
  | .ex f => fun e => (f e).bind fun r e1 => if isL r.d then (g e1).bind fun y e2 => (match F r.d y with | some z => .ok z e2 | none => .st) else .st
  | .br i => fun e => (xB i e).bind fun d0 _ => if isL d0 then (g e).bind fun y e2 => ((xB i e2).bind fun x e3 => (match F x y with | some z => .ok z e3 | none => .st)) else .st
theorem ge_lm {id : String} {name : Str} {apos : Pos} {rr : V → List V → Hp → VK → Prop} {F : D → D → Option Rs} {l : Lf} {g : En → Res D} (hK : X.K = C.K) (slot : Slot "list" name id) (hty : typeOf (.builtin id) = pure (.type "method_descriptor")) (hm : MtR X id rr) (ho : OpOk C F fun x y => rr x [y]) (ha : GL C X W a l) (hb : GO C X W b g)
    (hbase : attributeBase a name X.env (eval a X.env) = eval a X.env := by rfl)
    (hfew : ((backTo pos (starEach [b] X.env)).all (fun x => !x.1) && (backToKw pos (keywordEach [] X.env)).all (fun x => x.1.isSome)
      && decide (([b] : List Expr).length + ([] : List Keyword).length + (if ([] : List Keyword).isEmpty then 0 else 1) < 30)) = true := by rfl)
    (hline : (apos.endLine == pos.line) = true := by rfl) (hs : starEach [b] X.env = (false, eval b X.env) :: starEach [] X.env := by rfl) : GE C X W (.Call (.Attribute a name apos) [b] [] pos) (xLM F l g) := by
  refine pe_imp (pe_bm PySem.F.plainAttrs_list slot hty hm ha (pa_cons hb pa_nil hs) hbase hfew hline hs rfl) fun σ H Q ⟨e, Bx, s, q⟩ => ?_
  cases l with
  | ex f =>
    refine ⟨e, Bx, s, run_mono (bind_run q) (fun r e1 q v H1 p1 => ?_) fun _ z => z⟩
    split at q
    case isFalse => exact q.elim
    rename_i hl
    refine ⟨by rw [hK]; exact isL_ty hl (.rep p1.rp), e1, Bx, p1.s, run_mono (bind_run q) (fun y e2 q w H2 p2 => ?_) fun _ z => EX.after z p1.fr p1.le⟩
    cases z : F r.d y with
    | none => rw [z] at q; exact q.elim
    | some z' =>
      rw [z] at q
      exact ho Bx σ H2 e2 r.d y v w z' Q z p2.s (.rep (rep_after p1.rp p2.fr p2.le)) p2.o fun u H3 p3 => q u H3 (p1.after (Post.after_o p2 p3))
  | br i =>
    obtain ⟨d0, v, hx0, hv, o, q⟩ := look_run s q
    split at q
    case isFalse => exact q.elim
    rename_i hl
    refine ⟨v, hv, by rw [hK]; exact isL_ty hl o, e, Bx, s, run_mono (bind_run q) (fun y e2 q w H2 p2 => ?_) fun _ z => z⟩
    obtain ⟨d1, v', _, hv', o', q⟩ := look_run p2.s q
    rw [hv] at hv'; cases hv'
    cases z : F d1 y with
    | none => rw [z] at q; exact q.elim
    | some z' =>
      rw [z] at q
      exact ho Bx σ H2 e2 d1 y v w z' Q z p2.s o' p2.o fun u H3 p3 => q u H3 (Post.after_o p2 p3)
theorem ok_idx : OpOk C fIdx fun x y => rIndexD C.K x [y] := by
  intro Bx σ H e0 d1 d2 v1 v2 z Q hz s o1 o2 q
  cases d1 <;> try (cases hz; done)
  rename_i ds
  simp only [fIdx] at hz
  split at hz
  · rename_i h
    simp only [Bool.and_eq_true] at h
    cases hj : ds.findIdx? fun z => PyData.eqv z d2 with
    | none => rw [hj] at hz; cases hz
    | some j =>
      rw [hj] at hz; cases hz
      obtain ⟨hlt, h1, h2⟩ := List.findIdx?_eq_some_iff_getElem.mp hj
      have r1 := o1.rdd.dp (SeqAt.canLay_of_shaped h.1)
      obtain ⟨a, xs, rfl, _, _⟩ := o1.list
      refine ⟨a, v2, d2, ds, j, ds[j], rfl, rfl, r1, o2.rdd.dp (SeqAt.canLay_of_shaped h.2), h.1, h.2, List.getElem?_eq_getElem hlt, h1, fun m z hm hz => ?_, q _ _ (post_i s)⟩
      obtain ⟨hml, rfl⟩ := List.getElem?_eq_some_iff.mp hz
      simpa using h2 m hm
  · cases hz
end
end G
end L2
namespace L2
namespace G
open PySem PySem.Spec PyProof.Rows
section
variable {prog : Program} {w : World} {A : Around} {E : Value → Shared → Prop} {s : Shared}
/-! ### t[::-1] of a tuple -/
theorem adj_rev (n : Nat) : Builtin.Slice.sliceAdjust none none (-1) (n : Int) = ((n : Int) - 1, -1) := by
  unfold Builtin.Slice.sliceAdjust
  simp
theorem plc_rev (n : Nat) : Builtin.Slice.slicePlaces ((n : Int) - 1) (-1) (-1) = n := by
  unfold Builtin.Slice.slicePlaces
  simp
  try omega
theorem sl_rev {sl : Addr} {n : Nat} {vs : Value} {Q : Int × Int × Nat → Shared → Prop} (hs : s.heap.IsSliceOf sl .none .none vs) (ps : IsPart vs (some (-1))) (h : Q ((n : Int) - 1, -1, n) s) :
    wpAny (model prog w) A (Builtin.Slice.sliceApplied (.ref sl) (pure (n : Int))) Q E s := by
  obtain ⟨os, hos, hcs, hds⟩ := id hs
  unfold Builtin.Slice.sliceApplied Builtin.Slice.sliceFields
  refine wpAny_bind (wpAny_bind (wpAny_field hos hds (x := .none) rfl (wpAny_bind (wpAny_field hos hds (x := .none) rfl (wpAny_bind (wpAny_field hos hds (x := vs) rfl (wpAny_pure (wpAny_bind (HT.slicePart_ ps ?_)))))))))
  show wpAny _ _ (if ((-1 : Int) == 0) = true then _ else _) _ _ s
  rw [if_neg (by decide)]
  refine wpAny_bind (HT.slicePart_ .none (wpAny_bind (HT.slicePart_ .none (wpAny_bind (wpAny_pure ?_)))))
  show wpAny _ _ (match Builtin.Slice.sliceAdjust none none (-1) (n : Int) with | (lo, hi) => pure (lo, (-1 : Int), Builtin.Slice.slicePlaces lo hi (-1))) _ _ s
  rw [adj_rev n]
  show wpAny _ _ (pure ((n : Int) - 1, (-1 : Int), Builtin.Slice.slicePlaces ((n : Int) - 1) (-1) (-1))) _ _ s
  rw [plc_rev]
  exact wpAny_pure h
theorem pick_rev (xs : Array Value) : ((List.range xs.size).filterMap fun (m : Nat) => xs[((xs.size : Int) - 1 + (m : Int) * (-1)).toNat]?).toArray = xs.toList.reverse.toArray := by
  have e : ((List.range xs.size).filterMap fun (m : Nat) => xs[((xs.size : Int) - 1 + (m : Int) * (-1)).toNat]?) = ((List.range xs.size).map fun k => xs.size - 1 - k).filterMap (xs[·]?) := by
    rw [List.filterMap_map]
    have fm : ∀ (l : List Nat) (f g : Nat → Option Value), (∀ m ∈ l, f m = g m) → l.filterMap f = l.filterMap g := by
      intro l f g h
      induction l with
      | nil => rfl
      | cons a l ih => rw [List.filterMap_cons, List.filterMap_cons, h a List.mem_cons_self, ih fun m z => h m (List.mem_cons_of_mem _ z)]
    refine fm _ _ _ fun m hm => ?_
    have hm := List.mem_range.mp hm
    have : ((xs.size : Int) - 1 + (m : Int) * (-1)).toNat = xs.size - 1 - m := by omega
    show xs[_]? = xs[_]?
    rw [this]
  rw [e, PySem.W.krv_range, List.filterMap_reverse, PySem.W.krv_all]
theorem getItem_rev {t sl : Addr} {items : Array Value} {vs : Value} {Q : Value → Shared → Prop} (ht : IsTup s.heap t items) (hs : s.heap.IsSliceOf sl .none .none vs) (ps : IsPart vs (some (-1))) (hsz : items.size ≤ sizeLine)
    (h : Q (.ref s.heap.objs.size) { s with heap := s.heap.push { cls := .type "tuple", data := .seq items.toList.reverse.toArray } }) : wpAny (model prog w) A (getItem (.ref t) (.ref sl)) Q E s := by
  have hok : sizeOk (.seq items.toList.reverse.toArray) := by
    show items.toList.reverse.toArray.size ≤ sizeLine
    simpa using hsz
  obtain ⟨os, hos, hcs, hds⟩ := id hs
  unfold getItem
  try with_reducible refine wpAny_holding ?_
  first | refine wpAny_bind (wpAny_pure ?_) | skip
  refine wpAny_bind (wpAny_sequenceKey ht.typeIs (by decide) (wpAny_bind (wpAny_callSpecial?_slot (name := Str.ofString "__getitem__") ht.typeIs PyProof.Rows.slot_tuple_getitem
    (wpAny_call_entry PyProof.Rows.slot_tuple_getitem ht.typeIs PyProof.Rows.entry_tuple_getitem ?_ (PyProof.Rows.args_tuple_getitem _ _)))))
  show wpAny _ _ (Builtin.Tuple.tupleItemsOf (.ref t) >>= _) _ _ s
  refine wpAny_bind (PyProof.Rows.tupleItemsOf_ ht (wpAny_bind (wpAny_typeOf (⟨os, hos, hcs⟩ : s.TypeIs (.ref sl) "slice") ?_)))
  rw [if_pos (by decide)]
  refine wpAny_bind (sl_rev hs ps ?_)
  have hno : ¬ ((((items.size : Int) - 1) == 0 && (-1 : Int) == 1 && items.size == items.size) = true) := by simp
  show wpAny _ _ (if (((items.size : Int) - 1) == 0 && (-1 : Int) == 1 && items.size == items.size) = true then _ else _) _ _ s
  rw [if_neg hno, pick_rev]
  first
    | exact wpAny_bind (m := Builtin.Tuple.tupleExact _)
        (wpAny_newObj_type (wpAny_pure ⟨_, rfl, wpAny_pure h⟩) hok)
    | exact wpAny_bind (m := Builtin.Tuple.tupleExact _)
        (wpAny_newObj_type (wpAny_bind (wpAny_pure (wpAny_pure ⟨_, rfl, wpAny_pure h⟩))) hok)
end
section
variable {C : Ct} {X : Cx} {W : WX} {a : Expr} {ta : TE}
def rRevA (K : PySem.W.Frag) : V → Hp → VK → Prop := fun x H Q => (∃ l xs, x = .ref l ∧ SqL K H l xs ∧ ∀ p, H p = none → Q (.ref p) (upd H p (.lst xs.reverse))) ∨ ∃ l xs, x = .ref l ∧ SqT K H l xs ∧ ∀ p, H p = none → Q (.ref p) (upd H p (.tup xs.reverse))
theorem pe_revA {k : Nat} {p1 p2 p3 pos : Pos} (he : PE X a ta) : PE X (.Subscript a (.Slice none none (some (.UnaryOp .USub (.Constant (.int 1) k p1) p2)) p3) pos) (fun σ H Q => ta σ H fun x H1 => rRevA X.K x H1 Q) := by
  refine ⟨fun pins s σ H Q I h => Subscript_ (thn (he.run pins s σ H _ I h) fun v s1 ⟨x, H1, I1, r1, q1⟩ => ?_)⟩
  have hst : PO X (some (.UnaryOp .USub (.Constant (.int 1) k p1) p2)) (tPart (tUn (rU fun i => .int (-i)) (tC (.int 1)))) :=
    po_some (pe_un un_neg pe_int)
  refine wpAny_Slice (thn (po_none.run pins s1 σ H1 (fun o H2 => o = none ∧ H2 = H1) I1 ⟨rfl, rfl⟩)
    fun vl s2 ⟨l, H2, I2, pl, el, e2⟩ => ?_)
  subst el e2
  cases pl
  refine thn (po_none.run pins s2 σ H2 (fun o H3 => o = none ∧ H3 = H2) I2 ⟨rfl, rfl⟩)
    fun vu s3 ⟨u, H3, I3, pu, eu, e3⟩ => ?_
  subst eu e3
  cases pu
  refine thn (hst.run pins s3 σ H3 (fun o H4 => o = some (-1) ∧ H4 = H3) I3 ⟨1, rfl, -1, rfl, rfl, rfl⟩)
    fun vs s4 ⟨o, H4, I4, ps, eo, e4⟩ => ?_
  subst eo e4
  have I5 : Inv X pins σ H4 { s4 with heap := s4.heap.push { cls := .type "slice", data := .fields #[.none, .none, vs] } } :=
    I4.kept (t' := s4.toks) fun b ob q => Heap.get?_push_of_some _ q
  rcases q1 with ⟨l, xs, ex, hx, q⟩ | ⟨l, xs, ex, hx, q⟩
  · subst ex
    cases r1
    obtain ⟨its, r, ht, hz⟩ := I5.list hx
    have hlen := r.length
    refine tail_any (ops := [.ref l, .ref s4.heap.objs.size]) ht.isList.typeIs PySem.slot_list_getitem.lookup ?_ (by with_unfolding_all rfl)
    refine wpAny_getItem_list_slice ht.isList (Heap.IsSliceOf.new _ .none .none vs) .none .none ps (by decide) ?_ (by rw [List.size_toArray]; omega)
    rw [PySem.W.krv_pick]
    exact ⟨.ref _, _, I5.laid (t' := s4.toks) (o := .lst xs.reverse) (fun b ob q => Heap.get?_push_of_some _ q) (Nat.le_refl _) ⟨by rw [List.length_reverse]; exact hz, _, 0, r.reverse, Heap.get?_push_size _ rfl⟩, rfl, q _ (I5.hok.fresh (Nat.le_refl _))⟩
  · subst ex
    cases r1
    obtain ⟨its, r, ht, hz⟩ := I5.tuple hx
    have hlen := r.length
    refine tail_any (ops := [.ref l, .ref s4.heap.objs.size]) ht.typeIs PyProof.Rows.slot_tuple_getitem.lookup ?_ (by with_unfolding_all rfl)
    refine getItem_rev ht (Heap.IsSliceOf.new _ .none .none vs) ps (by rw [List.size_toArray]; omega) ?_
    exact ⟨.ref _, _, I5.laid (t' := s4.toks) (o := .tup xs.reverse) (fun b ob q => Heap.get?_push_of_some _ q) (Nat.le_refl _) ⟨by rw [List.length_reverse]; exact hz, _, r.reverse, IsTup.new _ _⟩, rfl, q _ (I5.hok.fresh (Nat.le_refl _))⟩
def fRevA : D → Option Rs
  | .list ds => some ⟨.list ds.reverse, true⟩
  | .tuple ds => some ⟨.tuple ds.reverse, false⟩
  | _ => none
theorem ok_revA : UnOk C fRevA (rRevA C.K) := by
  intro Bx σ H e0 d1 v1 z Q hz s o q
  cases d1 <;> try (cases hz; done)
  · cases hz
    obtain ⟨a, xs, rfl, hq, rs⟩ := o.list
    exact .inl ⟨a, xs, rfl, .inl (.inl hq), fun p hp => q _ _ (.newL s hp rs.reverse)⟩
  · cases hz
    obtain ⟨a, xs, rfl, hq, rs⟩ := o.tuple
    exact .inr ⟨a, xs, rfl, hq, fun p hp => q _ _ (.newT s hp rs.reverse)⟩
theorem ge_revA {g : En → Res D} {k : Nat} {p1 p2 p3 pos : Pos} (hK : X.K = C.K) (h : GO C X W a g) : GE C X W (.Subscript a (.Slice none none (some (.UnaryOp .USub (.Constant (.int 1) k p1) p2)) p3) pos) (xOne fRevA g) := by
  refine pe_imp (pe_revA h) fun σ H Q q => ?_
  rw [hK]
  exact un_run ok_revA q
/-! a def that calls itself: with no call left -/
theorem gf_st {P : Program} {w : World} {mg : Str → Option Value} {base : Heap} {k : Nat} {x : Str} {st : Stmt} {ps : List Str} {pat : List Bool} (h : DefF C mg x st ps) (hp : ps.length = pat.length) : GF C P w mg base k x pat (fun _ => .st) := by
  obtain ⟨f, fd, Fk, hm, bd⟩ := h
  refine ⟨f, fd, ps, ⟨fun vs H Q E ⟨ds, Bx, h1, _⟩ => by rw [h1, hp], fun A outer s H args us vs Q E _ _ _ _ ⟨_, _, _, _, _, z⟩ => z.elim⟩, hm, Fk.kp, bd⟩
end
end G
end L2
namespace L2
namespace G
open PySem PySem.Spec PyProof.Rows
def top (i : Nat) : Stmt := PySem.Challenge.pw_lampkinds_k50_formulas_and_their_lamps.main.body.getD i (.Pass ⟨0, 0, 0, 0⟩)
abbrev s__law_draw : Stmt := top 23
abbrev s__law_take : Stmt := top 24
abbrev s__law_formula : Stmt := top 36
abbrev s__law_two : Stmt := top 27
abbrev s__law_made : Stmt := top 29
abbrev s__law_bit : Stmt := top 26
abbrev s__law_value : Stmt := top 38
abbrev s__law_lamp_of : Stmt := top 39
abbrev s__law_count : Stmt := top 37
abbrev s__law_levels : Stmt := top 40
abbrev s__law_plain : Stmt := top 42
abbrev s__law_says : Stmt := top 25
abbrev s_is_whole : Stmt := top 4
abbrev s_check_number : Stmt := top 11
abbrev s_is_leaf : Stmt := top 9
abbrev s_count_leaves : Stmt := top 10
abbrev s_is_formula : Stmt := top 12
abbrev s_check_formula : Stmt := top 13
abbrev s_leaf_table : Stmt := top 14
abbrev s_table_of : Stmt := top 15
abbrev s_lamp_of : Stmt := top 16
abbrev s_leaves_of : Stmt := top 17
abbrev s_count_levels : Stmt := top 18
abbrev s_levels_of : Stmt := top 19
abbrev s_all_plain : Stmt := top 20
abbrev s_is_plain : Stmt := top 21
abbrev s__law_told : Stmt := top 43
abbrev s__law_bent_formula : Stmt := top 41
abbrev s_law : Stmt := top 44
def d_MOST_VARIABLES : D := (.int 5)
def d_MOST_LEAVES : D := (.int 64)
def d_MOST_LEVELS : D := (.int 12)
def m_Malformed : Nat → Option Bool
  | 0 => some true
  | _ => none
structure Tx (C : Ct) (mg : Str → Option Value) : Prop where
  b_abs : mg "abs" = none
  b_all : mg "all" = none
  b_bool : mg "bool" = none
  b_int : mg "int" = none
  b_isinstance : mg "isinstance" = none
  b_len : mg "len" = none
  b_list : mg "list" = none
  b_max : mg "max" = none
  b_min : mg "min" = none
  b_range : mg "range" = none
  b_repr : mg "repr" = none
  b_str : mg "str" = none
  b_sum : mg "sum" = none
  b_tuple : mg "tuple" = none
  g_MOST_VARIABLES : GlobF C mg "MOST_VARIABLES" d_MOST_VARIABLES
  g_MOST_LEAVES : GlobF C mg "MOST_LEAVES" d_MOST_LEAVES
  g_MOST_LEVELS : GlobF C mg "MOST_LEVELS" d_MOST_LEVELS
  x_Malformed : ExcF C mg 0 "Malformed"
  m_Malformed : ∀ k b, m_Malformed k = some b → PySem.W.exmOne C.K (.ref (C.cl k)) (.ref (C.cl 0)) = some b
  d__law_draw : DefF C mg "_law_draw" s__law_draw ["script"]
  d__law_take : DefF C mg "_law_take" s__law_take ["draw", "many"]
  d__law_formula : DefF C mg "_law_formula" s__law_formula ["draw", "n", "levels"]
  d__law_two : DefF C mg "_law_two" s__law_two ["i"]
  d__law_made : DefF C mg "_law_made" s__law_made ["values"]
  d__law_bit : DefF C mg "_law_bit" s__law_bit ["x", "i"]
  d__law_value : DefF C mg "_law_value" s__law_value ["formula", "x"]
  d__law_lamp_of : DefF C mg "_law_lamp_of" s__law_lamp_of ["formula", "n"]
  d__law_count : DefF C mg "_law_count" s__law_count ["value", "n", "levels"]
  d__law_levels : DefF C mg "_law_levels" s__law_levels ["formula"]
  d__law_plain : DefF C mg "_law_plain" s__law_plain ["formula"]
  d__law_says : DefF C mg "_law_says" s__law_says ["value", "due"]
  d_is_whole : DefF C mg "is_whole" s_is_whole ["value"]
  d_check_number : DefF C mg "check_number" s_check_number ["n"]
  d_is_leaf : DefF C mg "is_leaf" s_is_leaf ["value", "n"]
  d_count_leaves : DefF C mg "count_leaves" s_count_leaves ["value", "n", "levels"]
  d_is_formula : DefF C mg "is_formula" s_is_formula ["n", "value"]
  d_check_formula : DefF C mg "check_formula" s_check_formula ["n", "value"]
  d_leaf_table : DefF C mg "leaf_table" s_leaf_table ["n", "i", "bit"]
  d_table_of : DefF C mg "table_of" s_table_of ["n", "formula"]
  d_lamp_of : DefF C mg "lamp_of" s_lamp_of ["n", "formula"]
  d_leaves_of : DefF C mg "leaves_of" s_leaves_of ["n", "formula"]
  d_count_levels : DefF C mg "count_levels" s_count_levels ["formula"]
  d_levels_of : DefF C mg "levels_of" s_levels_of ["n", "formula"]
  d_all_plain : DefF C mg "all_plain" s_all_plain ["formula"]
  d_is_plain : DefF C mg "is_plain" s_is_plain ["n", "formula"]
  d__law_told : DefF C mg "_law_told" s__law_told ["which", "n", "formula"]
  d__law_bent_formula : DefF C mg "_law_bent_formula" s__law_bent_formula ["draw", "data"]
  d_law : DefF C mg "law" s_law ["script"]
theorem sc__law_draw : FnScope ["script", "seed", "cell"] ["script"] (defScope s__law_draw) := ⟨rfl, rfl, rfl, by decide +kernel, rfl, by decide +kernel, by decide +kernel⟩
theorem sc__law_take : FnScope ["draw", "many", "found"] ["draw", "many"] (defScope s__law_take) := ⟨rfl, rfl, rfl, by decide +kernel, rfl, by decide +kernel, by decide +kernel⟩
theorem sc__law_formula : FnScope ["draw", "n", "levels"] ["draw", "n", "levels"] (defScope s__law_formula) := ⟨rfl, rfl, rfl, by decide +kernel, rfl, by decide +kernel, by decide +kernel⟩
theorem sc__law_two : FnScope ["i"] ["i"] (defScope s__law_two) := ⟨rfl, rfl, rfl, by decide +kernel, rfl, by decide +kernel, by decide +kernel⟩
theorem sc__law_made : FnScope ["values", "found", "x"] ["values"] (defScope s__law_made) := ⟨rfl, rfl, rfl, by decide +kernel, rfl, by decide +kernel, by decide +kernel⟩
theorem sc__law_bit : FnScope ["x", "i"] ["x", "i"] (defScope s__law_bit) := ⟨rfl, rfl, rfl, by decide +kernel, rfl, by decide +kernel, by decide +kernel⟩
theorem sc__law_value : FnScope ["formula", "x", "one", "two"] ["formula", "x"] (defScope s__law_value) := ⟨rfl, rfl, rfl, by decide +kernel, rfl, by decide +kernel, by decide +kernel⟩
theorem sc__law_lamp_of : FnScope ["formula", "n", "x"] ["formula", "n"] (defScope s__law_lamp_of) := ⟨rfl, rfl, rfl, by decide +kernel, rfl, by decide +kernel, by decide +kernel⟩
theorem sc__law_count : FnScope ["value", "n", "levels", "good", "one", "two", "item"] ["value", "n", "levels"] (defScope s__law_count) := ⟨rfl, rfl, rfl, by decide +kernel, rfl, by decide +kernel, by decide +kernel⟩
theorem sc__law_levels : FnScope ["formula"] ["formula"] (defScope s__law_levels) := ⟨rfl, rfl, rfl, by decide +kernel, rfl, by decide +kernel, by decide +kernel⟩
theorem sc__law_plain : FnScope ["formula"] ["formula"] (defScope s__law_plain) := ⟨rfl, rfl, rfl, by decide +kernel, rfl, by decide +kernel, by decide +kernel⟩
theorem sc__law_says : FnScope ["value", "due"] ["value", "due"] (defScope s__law_says) := ⟨rfl, rfl, rfl, by decide +kernel, rfl, by decide +kernel, by decide +kernel⟩
theorem sc_is_whole : FnScope ["value"] ["value"] (defScope s_is_whole) := ⟨rfl, rfl, rfl, by decide +kernel, rfl, by decide +kernel, by decide +kernel⟩
theorem sc_check_number : FnScope ["n"] ["n"] (defScope s_check_number) := ⟨rfl, rfl, rfl, by decide +kernel, rfl, by decide +kernel, by decide +kernel⟩
theorem sc_is_leaf : FnScope ["value", "n"] ["value", "n"] (defScope s_is_leaf) := ⟨rfl, rfl, rfl, by decide +kernel, rfl, by decide +kernel, by decide +kernel⟩
theorem sc_count_leaves : FnScope ["value", "n", "levels", "found", "part", "count"] ["value", "n", "levels"] (defScope s_count_leaves) := ⟨rfl, rfl, rfl, by decide +kernel, rfl, by decide +kernel, by decide +kernel⟩
theorem sc_is_formula : FnScope ["n", "value"] ["n", "value"] (defScope s_is_formula) := ⟨rfl, rfl, rfl, by decide +kernel, rfl, by decide +kernel, by decide +kernel⟩
theorem sc_check_formula : FnScope ["n", "value"] ["n", "value"] (defScope s_check_formula) := ⟨rfl, rfl, rfl, by decide +kernel, rfl, by decide +kernel, by decide +kernel⟩
theorem sc_leaf_table : FnScope ["n", "i", "bit", "x"] ["n", "i", "bit"] (defScope s_leaf_table) := ⟨rfl, rfl, rfl, by decide +kernel, rfl, by decide +kernel, by decide +kernel⟩
theorem sc_table_of : FnScope ["n", "formula", "one", "two"] ["n", "formula"] (defScope s_table_of) := ⟨rfl, rfl, rfl, by decide +kernel, rfl, by decide +kernel, by decide +kernel⟩
theorem sc_lamp_of : FnScope ["n", "formula"] ["n", "formula"] (defScope s_lamp_of) := ⟨rfl, rfl, rfl, by decide +kernel, rfl, by decide +kernel, by decide +kernel⟩
theorem sc_leaves_of : FnScope ["n", "formula"] ["n", "formula"] (defScope s_leaves_of) := ⟨rfl, rfl, rfl, by decide +kernel, rfl, by decide +kernel, by decide +kernel⟩
theorem sc_count_levels : FnScope ["formula"] ["formula"] (defScope s_count_levels) := ⟨rfl, rfl, rfl, by decide +kernel, rfl, by decide +kernel, by decide +kernel⟩
theorem sc_levels_of : FnScope ["n", "formula"] ["n", "formula"] (defScope s_levels_of) := ⟨rfl, rfl, rfl, by decide +kernel, rfl, by decide +kernel, by decide +kernel⟩
theorem sc_all_plain : FnScope ["formula"] ["formula"] (defScope s_all_plain) := ⟨rfl, rfl, rfl, by decide +kernel, rfl, by decide +kernel, by decide +kernel⟩
theorem sc_is_plain : FnScope ["n", "formula"] ["n", "formula"] (defScope s_is_plain) := ⟨rfl, rfl, rfl, by decide +kernel, rfl, by decide +kernel, by decide +kernel⟩
theorem sc__law_told : FnScope ["which", "n", "formula"] ["which", "n", "formula"] (defScope s__law_told) := ⟨rfl, rfl, rfl, by decide +kernel, rfl, by decide +kernel, by decide +kernel⟩
theorem sc__law_bent_formula : FnScope ["draw", "data", "at"] ["draw", "data"] (defScope s__law_bent_formula) := ⟨rfl, rfl, rfl, by decide +kernel, rfl, by decide +kernel, by decide +kernel⟩
theorem sc_law : FnScope ["script", "draw", "turn", "n", "formula", "dues", "value", "good", "deep", "wide", "k", "bad", "which", "due"] ["script"] (defScope s_law) := ⟨rfl, rfl, rfl, by decide +kernel, rfl, by decide +kernel, by decide +kernel⟩
variable {C : Ct} {P : Program} {w : World} {mg : Str → Option Value} {base : Heap}
def b__law_take : SF :=
 (sSeq (sIf (xTest (xOp fEq (.ex (xOp fIxA (.br 0) (xO (xC (.int 2))))) (xO (xC (.int 0)))))
 (sSeq (sSetI 0 (xOp fAdd (.ex (xOp fIxA (.br 0) (xO (xC (.int 1))))) (xO (xC (.int 1)))) (xC (.int 1)))
 (sSeq (sIf (xTest (xOp fLt (.ex (xOp fIxA (.br 0) (xO (xC (.int 1))))) (xO (xOne fLen (xO (xOp fIxA (.br 0) (xO (xC (.int 0)))))))))
 (sSetI 0 (xOp fIxA (.ex (xOp fIxA (.br 0) (xO (xC (.int 0))))) (xO (xOp fIxA (.br 0) (xO (xC (.int 1)))))) (xC (.int 2)))
 sNil)
 (sIf (xTest (xOp fEq (.ex (xOp fIxA (.br 0) (xO (xC (.int 2))))) (xO (xC (.int 0)))))
 (sSeq (sSetI 0 (xOp fMod (.ex (xOne fInt (xO (xOp fAdd (.ex (xOp fMul (.ex (xOp fIxA (.br 0) (xO (xC (.int 3))))) (xO (xC (.int 48271))))) (xO (xC (.int 11))))))) (xO (xC (.int 2147483647)))) (xC (.int 3)))
 (sSetI 0 (xOp fIxA (.br 0) (xO (xC (.int 3)))) (xC (.int 2))))
 sNil)))
 sNil)
 (sSeq (sAsg (xOp fMod (.ex (xOne fInt (xO (xOp fIxA (.br 0) (xO (xC (.int 2))))))) (xB 1)) (gV 2))
 (sSeq (sSetI 0 (xOp fDiv (.ex (xOp fIxA (.br 0) (xO (xC (.int 2))))) (xB 1)) (xC (.int 2)))
 (sRetV 2))))
def F__law_take : XF := fnD b__law_take [true, false] 1
theorem g__law_take (T : Tx C mg) : GF C P w mg base 1 "_law_take" [true, false] F__law_take := by
  have nd : (["draw", "many", "found"] : List Str).Nodup := by decide
  refine gf_def (body := b__law_take) T.d__law_take sc__law_take rfl rfl rfl fun f cdv A outer s H E hr => ?_
  exact
 (gss_cons (gs_if (gt_cmp (op_eqD (hu64 hr)) ok_eq (gl_e (ge_ix (ix_all (hu_of hr.r)) ok_ixAll (gl_v (i := 0) rfl (Or.inl (by kernel_rfl))) (go_e ge_int) (fun _ _ => rfl))) (go_e ge_int) (nomark _))
 (gss_cons (gs_setI (i := 0) rfl (Or.inl (by kernel_rfl)) (ge_op op_addA ok_add (gl_e (ge_ix (ix_all (hu_of hr.r)) ok_ixAll (gl_v (i := 0) rfl (Or.inl (by kernel_rfl))) (go_e ge_int) (fun _ _ => rfl))) (go_e ge_int)) ge_int)
 (gss_cons (gs_if (gt_cmp op_lt okB (gl_e (ge_ix (ix_all (hu_of hr.r)) ok_ixAll (gl_v (i := 0) rfl (Or.inl (by kernel_rfl))) (go_e ge_int) (fun _ _ => rfl))) (go_e (ge_len rfl (glk (by kernel_rfl)) T.b_len (go_e (ge_ix (ix_all (hu_of hr.r)) ok_ixAll (gl_v (i := 0) rfl (Or.inl (by kernel_rfl))) (go_e ge_int) (fun _ _ => rfl))))) (nomark _))
 (gss_one (gs_setI (i := 0) rfl (Or.inl (by kernel_rfl)) (ge_ix (ix_all (hu_of hr.r)) ok_ixAll (gl_e (ge_ix (ix_all (hu_of hr.r)) ok_ixAll (gl_v (i := 0) rfl (Or.inl (by kernel_rfl))) (go_e ge_int) (fun _ _ => rfl))) (go_e (ge_ix (ix_all (hu_of hr.r)) ok_ixAll (gl_v (i := 0) rfl (Or.inl (by kernel_rfl))) (go_e ge_int) (fun _ _ => rfl))) (fun _ _ => rfl)) ge_int))
 gss_nil)
 (gss_one (gs_if (gt_cmp (op_eqD (hu64 hr)) ok_eq (gl_e (ge_ix (ix_all (hu_of hr.r)) ok_ixAll (gl_v (i := 0) rfl (Or.inl (by kernel_rfl))) (go_e ge_int) (fun _ _ => rfl))) (go_e ge_int) (nomark _))
 (gss_cons (gs_setI (i := 0) rfl (Or.inl (by kernel_rfl)) (ge_op op_mod ok_mod (gl_e (ge_ty1 (call_int1) ok_int PyProof.Rows.boot_int (glk (by kernel_rfl)) T.b_int (go_e (ge_op op_addA ok_add (gl_e (ge_op op_mulA ok_mul (gl_e (ge_ix (ix_all (hu_of hr.r)) ok_ixAll (gl_v (i := 0) rfl (Or.inl (by kernel_rfl))) (go_e ge_int) (fun _ _ => rfl))) (go_e ge_int))) (go_e ge_int))))) (go_e ge_int)) ge_int)
 (gss_one (gs_setI (i := 0) rfl (Or.inl (by kernel_rfl)) (ge_ix (ix_all (hu_of hr.r)) ok_ixAll (gl_v (i := 0) rfl (Or.inl (by kernel_rfl))) (go_e ge_int) (fun _ _ => rfl)) ge_int)))
 gss_nil))))
 gss_nil)
 (gss_cons (gs_asg (ge_op op_mod ok_mod (gl_e (ge_ty1 (call_int1) ok_int PyProof.Rows.boot_int (glk (by kernel_rfl)) T.b_int (go_e (ge_ix (ix_all (hu_of hr.r)) ok_ixAll (gl_v (i := 0) rfl (Or.inl (by kernel_rfl))) (go_e ge_int) (fun _ _ => rfl))))) (go_v (i := 1) rfl (Or.inl (by kernel_rfl)))) (gg_v (i := 2) nd rfl (Or.inl (by kernel_rfl)) (by decide)))
 (gss_cons (gs_setI (i := 0) rfl (Or.inl (by kernel_rfl)) (ge_op op_fdivW ok_div (gl_e (ge_ix (ix_all (hu_of hr.r)) ok_ixAll (gl_v (i := 0) rfl (Or.inl (by kernel_rfl))) (go_e ge_int) (fun _ _ => rfl))) (go_v (i := 1) rfl (Or.inl (by kernel_rfl)))) ge_int)
 (gss_one (gs_retV (i := 2) rfl (Or.inl (by kernel_rfl)))))))
def b__law_formula (φ : XF) : SF :=
 (sSeq (sIf (tOrT (xTest (xOp fEq (.br 2) (xO (xC (.int 0))))) (xTest (xOp fEq (.ex (xCallD 0 1 F__law_take (xCons (xC (.int 4)) xNil))) (xO (xC (.int 0))))))
 (sRet (xTup (xCons (xC (.str "leaf")) (xCons (xCallD 0 1 F__law_take (xCons (xV 1) xNil)) (xCons (xOne fInt (xO (xOp fGt (.ex (xCallD 0 1 F__law_take (xCons (xC (.int 3)) xNil))) (xO (xC (.int 0)))))) xNil)))))
 sNil)
 (sRet (xTup (xCons (xOp fIxA (.ex (xTup (xCons (xC (.str "and")) (xCons (xC (.str "or")) xNil)))) (xO (xCallD 0 1 F__law_take (xCons (xC (.int 2)) xNil)))) (xCons (xCallD 0 2 φ (xCons (xV 1) (xCons (xOp fSub (.br 2) (xO (xC (.int 1)))) xNil))) (xCons (xCallD 0 2 φ (xCons (xV 1) (xCons (xOp fSub (.br 2) (xO (xC (.int 1)))) xNil))) xNil))))))
def F__law_formula : Nat → XF
  | 0 => fun _ => .st
  | n + 1 => fnD (b__law_formula (F__law_formula n)) [true, false, false] 0
theorem g__law_formula (T : Tx C mg) : ∀ n : Nat, GF C P w mg base (1 + n) "_law_formula" [true, false, false] (F__law_formula n)
  | 0 => gf_st T.d__law_formula rfl
  | n + 1 => by
    have ih := g__law_formula T n
    have nd : (["draw", "n", "levels"] : List Str).Nodup := by decide
    refine gf_def (k := 1 + n) (body := b__law_formula (F__law_formula n)) T.d__law_formula sc__law_formula rfl rfl rfl fun f cdv A outer s H E hr => ?_
    exact (
     (gss_cons (gs_if (gt_w (gw_or (gt_cmp (op_eqD (hu64 hr)) ok_eq (gl_v (i := 2) rfl (Or.inl (by kernel_rfl))) (go_e ge_int) (nomark _)) (gw_or1 (gt_cmp (op_eqD (hu64 hr)) ok_eq (gl_e (ge_callD (i := 0) (n := 1) ((g__law_take T).mono (by omega)) rfl (takes_of rfl rfl rfl rfl) hr (glk (by kernel_rfl)) rfl (Or.inl (by kernel_rfl)) (ga_cons ge_int ga_nil))) (go_e ge_int) (nomark _)))))
 (gss_one (gs_ret (ge_tup (ga_cons ge_str (ga_cons (ge_callD (i := 0) (n := 1) ((g__law_take T).mono (by omega)) rfl (takes_of rfl rfl rfl rfl) hr (glk (by kernel_rfl)) rfl (Or.inl (by kernel_rfl)) (ga_cons (ge_v (i := 1) rfl (Or.inl (by kernel_rfl))) ga_nil)) (ga_cons (ge_ty1 (call_int1) ok_int PyProof.Rows.boot_int (glk (by kernel_rfl)) T.b_int (go_e (ge_cmp op_gt okB (gl_e (ge_callD (i := 0) (n := 1) ((g__law_take T).mono (by omega)) rfl (takes_of rfl rfl rfl rfl) hr (glk (by kernel_rfl)) rfl (Or.inl (by kernel_rfl)) (ga_cons ge_int ga_nil))) (go_e ge_int) (nomark _)))) ga_nil))))))
 gss_nil)
 (gss_one (gs_ret (ge_tup (ga_cons (ge_ix (ix_all (hu_of hr.r)) ok_ixAll (gl_e (ge_tup (ga_cons ge_str (ga_cons ge_str ga_nil)))) (go_e (ge_callD (i := 0) (n := 1) ((g__law_take T).mono (by omega)) rfl (takes_of rfl rfl rfl rfl) hr (glk (by kernel_rfl)) rfl (Or.inl (by kernel_rfl)) (ga_cons ge_int ga_nil))) (fun _ _ => rfl)) (ga_cons (ge_callD (i := 0) (n := 2) ih rfl (takes_of rfl rfl rfl rfl) hr (glk (by kernel_rfl)) rfl (Or.inl (by kernel_rfl)) (ga_cons (ge_v (i := 1) rfl (Or.inl (by kernel_rfl))) (ga_cons (ge_op op_sub ok_sub (gl_v (i := 2) rfl (Or.inl (by kernel_rfl))) (go_e ge_int)) ga_nil))) (ga_cons (ge_callD (i := 0) (n := 2) ih rfl (takes_of rfl rfl rfl rfl) hr (glk (by kernel_rfl)) rfl (Or.inl (by kernel_rfl)) (ga_cons (ge_v (i := 1) rfl (Or.inl (by kernel_rfl))) (ga_cons (ge_op op_sub ok_sub (gl_v (i := 2) rfl (Or.inl (by kernel_rfl))) (go_e ge_int)) ga_nil))) ga_nil))))))))
def b__law_two : SF :=
 (sRet (xOp fShl (.ex (xC (.int 1))) (xB 0)))
def F__law_two : XF := fnD b__law_two [false] 0
theorem g__law_two (T : Tx C mg) : GF C P w mg base 1 "_law_two" [false] F__law_two := by
  have nd : (["i"] : List Str).Nodup := by decide
  refine gf_def (body := b__law_two) T.d__law_two sc__law_two rfl rfl rfl fun f cdv A outer s H E hr => ?_
  exact
 (gss_one (gs_ret (ge_op op_shl ok_shl (gl_e ge_int) (go_v (i := 0) rfl (Or.inl (by kernel_rfl))))))
def b__law_made : SF :=
 (sSeq (sAsg (xC (.int 0)) (gV 1))
 (sSeq (sFor (iR1 (xCons (xOne fLen (xB 0)) xNil)) (gV 2)
 (sAsg (xOp fAdd (.br 1) (xO (xOp fMul (.ex (xOp fIxA (.br 0) (xB 2))) (xO (xCall0 1 F__law_two (xCons (xV 2) xNil)))))) (gV 1)))
 (sRetV 1)))
def F__law_made : XF := fnD b__law_made [false] 2
theorem g__law_made (T : Tx C mg) : GF C P w mg base 2 "_law_made" [false] F__law_made := by
  have nd : (["values", "found", "x"] : List Str).Nodup := by decide
  refine gf_def (body := b__law_made) T.d__law_made sc__law_made rfl rfl rfl fun f cdv A outer s H E hr => ?_
  exact
 (gss_cons (gs_asg ge_int (gg_v (i := 1) nd rfl (Or.inl (by kernel_rfl)) (by decide)))
 (gss_cons (gs_for (passes_of rfl) rfl (gi_r1 (glk (by kernel_rfl)) T.b_range (ga_cons (ge_len rfl (glk (by kernel_rfl)) T.b_len (go_v (i := 0) rfl (Or.inl (by kernel_rfl)))) ga_nil)) (gg_v (i := 2) nd rfl (Or.inl (by kernel_rfl)) (by decide))
 (gss_one (gs_asg (ge_op op_addA ok_add (gl_v (i := 1) rfl (Or.inl (by kernel_rfl))) (go_e (ge_op op_mulA ok_mul (gl_e (ge_ix (ix_all (hu_of hr.r)) ok_ixAll (gl_v (i := 0) rfl (Or.inl (by kernel_rfl))) (go_v (i := 2) rfl (Or.inl (by kernel_rfl))) (fun _ _ => rfl))) (go_e (ge_call0 (n := 1) ((g__law_two T).mono (by omega)) rfl (takes_of rfl rfl rfl rfl) hr (glk (by kernel_rfl)) (ga_cons (ge_v (i := 2) rfl (Or.inl (by kernel_rfl))) ga_nil)))))) (gg_v (i := 1) nd rfl (Or.inl (by kernel_rfl)) (by decide)))))
 (gss_one (gs_retV (i := 1) rfl (Or.inl (by kernel_rfl))))))
def b__law_bit : SF :=
 (sRet (xOp fMod (.ex (xOne fInt (xO (xOp fShr (.br 0) (xB 1))))) (xO (xC (.int 2)))))
def F__law_bit : XF := fnD b__law_bit [false, false] 0
theorem g__law_bit (T : Tx C mg) : GF C P w mg base 1 "_law_bit" [false, false] F__law_bit := by
  have nd : (["x", "i"] : List Str).Nodup := by decide
  refine gf_def (body := b__law_bit) T.d__law_bit sc__law_bit rfl rfl rfl fun f cdv A outer s H E hr => ?_
  exact
 (gss_one (gs_ret (ge_op op_mod ok_mod (gl_e (ge_ty1 (call_int1) ok_int PyProof.Rows.boot_int (glk (by kernel_rfl)) T.b_int (go_e (ge_op op_shr ok_shr (gl_v (i := 0) rfl (Or.inl (by kernel_rfl))) (go_v (i := 1) rfl (Or.inl (by kernel_rfl))))))) (go_e ge_int))))
def b__law_value (φ : XF) : SF :=
 (sSeq (sIf (xTest (xOp fEq (.ex (xOp fIxA (.br 0) (xO (xC (.int 0))))) (xO (xC (.str "leaf")))))
 (sRet (xOne fInt (xO (xOp fEq (.ex (xCall0 2 F__law_bit (xCons (xV 1) (xCons (xOp fIxA (.br 0) (xO (xC (.int 1)))) xNil)))) (xO (xOp fIxA (.br 0) (xO (xC (.int 2)))))))))
 sNil)
 (sSeq (sPar 2 3 (xCall0 2 φ (xCons (xOp fIxA (.br 0) (xO (xC (.int 1)))) (xCons (xV 1) xNil))) (xCall0 2 φ (xCons (xOp fIxA (.br 0) (xO (xC (.int 2)))) (xCons (xV 1) xNil))))
 (sRet (xIf (xTest (xOp fEq (.ex (xOp fIxA (.br 0) (xO (xC (.int 0))))) (xO (xC (.str "and"))))) (xOp fMin2 (.br 2) (xB 3)) (xOp fMax2 (.br 2) (xB 3))))))
def F__law_value : Nat → XF
  | 0 => fun _ => .st
  | n + 1 => fnD (b__law_value (F__law_value n)) [false, false] 2
theorem g__law_value (T : Tx C mg) : ∀ n : Nat, GF C P w mg base (1 + n) "_law_value" [false, false] (F__law_value n)
  | 0 => gf_st T.d__law_value rfl
  | n + 1 => by
    have ih := g__law_value T n
    have nd : (["formula", "x", "one", "two"] : List Str).Nodup := by decide
    refine gf_def (k := 1 + n) (body := b__law_value (F__law_value n)) T.d__law_value sc__law_value rfl rfl rfl fun f cdv A outer s H E hr => ?_
    exact (
     (gss_cons (gs_if (gt_cmp (op_eqD (hu64 hr)) ok_eq (gl_e (ge_ix (ix_all (hu_of hr.r)) ok_ixAll (gl_v (i := 0) rfl (Or.inl (by kernel_rfl))) (go_e ge_int) (fun _ _ => rfl))) (go_e ge_str) (nomark _))
 (gss_one (gs_ret (ge_ty1 (call_int1) ok_int PyProof.Rows.boot_int (glk (by kernel_rfl)) T.b_int (go_e (ge_cmp (op_eqD (hu64 hr)) ok_eq (gl_e (ge_call0 (n := 2) ((g__law_bit T).mono (by omega)) rfl (takes_of rfl rfl rfl rfl) hr (glk (by kernel_rfl)) (ga_cons (ge_v (i := 1) rfl (Or.inl (by kernel_rfl))) (ga_cons (ge_ix (ix_all (hu_of hr.r)) ok_ixAll (gl_v (i := 0) rfl (Or.inl (by kernel_rfl))) (go_e ge_int) (fun _ _ => rfl)) ga_nil)))) (go_e (ge_ix (ix_all (hu_of hr.r)) ok_ixAll (gl_v (i := 0) rfl (Or.inl (by kernel_rfl))) (go_e ge_int) (fun _ _ => rfl))) (nomark _))))))
 gss_nil)
 (gss_cons (gs_par (i := 2) (j := 3) rfl nd rfl rfl (by decide) (by kernel_rfl) (by kernel_rfl) (ge_call0 (n := 2) ih rfl (takes_of rfl rfl rfl rfl) hr (glk (by kernel_rfl)) (ga_cons (ge_ix (ix_all (hu_of hr.r)) ok_ixAll (gl_v (i := 0) rfl (Or.inl (by kernel_rfl))) (go_e ge_int) (fun _ _ => rfl)) (ga_cons (ge_v (i := 1) rfl (Or.inl (by kernel_rfl))) ga_nil))) (ge_call0 (n := 2) ih rfl (takes_of rfl rfl rfl rfl) hr (glk (by kernel_rfl)) (ga_cons (ge_ix (ix_all (hu_of hr.r)) ok_ixAll (gl_v (i := 0) rfl (Or.inl (by kernel_rfl))) (go_e ge_int) (fun _ _ => rfl)) (ga_cons (ge_v (i := 1) rfl (Or.inl (by kernel_rfl))) ga_nil))) (by decide) (by decide) (by kernel_rfl))
 (gss_one (gs_ret (ge_if (gt_cmp (op_eqD (hu64 hr)) ok_eq (gl_e (ge_ix (ix_all (hu_of hr.r)) ok_ixAll (gl_v (i := 0) rfl (Or.inl (by kernel_rfl))) (go_e ge_int) (fun _ _ => rfl))) (go_e ge_str) (nomark _)) (ge_b2 (call_min2 rfl) ok_min2 PyProof.Rows.boot_min (glk (by kernel_rfl)) T.b_min (gl_v (i := 2) rfl (Or.inl (by kernel_rfl))) (go_v (i := 3) rfl (Or.inl (by kernel_rfl)))) (ge_b2 (call_max2 rfl) ok_max2 PyProof.Rows.boot_max (glk (by kernel_rfl)) T.b_max (gl_v (i := 2) rfl (Or.inl (by kernel_rfl))) (go_v (i := 3) rfl (Or.inl (by kernel_rfl))))))))))
def b__law_lamp_of : SF :=
 (sRet (xTup (xCons (xV 1) (xCons (xCall0 1 F__law_made (xCons (xLk none (xLc (iR1 (xCons (xCall0 1 F__law_two (xCons (xV 1) xNil)) xNil)) (gV 2) tTrue (xCall0 2 (F__law_value 30) (xCons (xV 0) (xCons (xV 2) xNil))) [2])) xNil)) xNil))))
def F__law_lamp_of : XF := fnD b__law_lamp_of [false, false] 1
theorem g__law_lamp_of (T : Tx C mg) : GF C P w mg base 32 "_law_lamp_of" [false, false] F__law_lamp_of := by
  have nd : (["formula", "n", "x"] : List Str).Nodup := by decide
  refine gf_def (body := b__law_lamp_of) T.d__law_lamp_of sc__law_lamp_of rfl rfl rfl fun f cdv A outer s H E hr => ?_
  exact
 (gss_one (gs_ret (ge_tup (ga_cons (ge_v (i := 1) rfl (Or.inl (by kernel_rfl))) (ga_cons (ge_call0 (n := 1) ((g__law_made T).mono (by omega)) rfl (takes_of rfl rfl rfl rfl) hr (glk (by kernel_rfl)) (ga_cons (ge_lc (own := [("x", 2)]) none rfl nd (gi_r1 (glk (by kernel_rfl)) T.b_range (ga_cons (ge_call0 (n := 1) ((g__law_two T).mono (by omega)) rfl (takes_of rfl rfl rfl rfl) hr (glk (by kernel_rfl)) (ga_cons (ge_v (i := 1) rfl (Or.inl (by kernel_rfl))) ga_nil)) ga_nil)) (blkOk_by (by kernel_rfl)) (fun _ _ _ _ _ => (gg_v (i := 2) nd rfl (Or.inl (by kernel_rfl)) (oth_not (by decide)))) (fun _ _ _ _ _ => gts_nil) (fun _ _ _ _ _ => (ge_call0 (n := 2) ((g__law_value T 30).mono (by omega)) rfl takes0 hr (glk (by kernel_rfl)) (ga_cons (ge_v (i := 0) rfl (Or.inr (Or.inl (by kernel_rfl)))) (ga_cons (ge_v (i := 2) rfl (Or.inl (by kernel_rfl))) ga_nil))))) ga_nil)) ga_nil)))))
def b__law_count (φ : XF) : SF :=
 (sSeq (sIf (tOrT (tNotT (tTru (xO (xOne (fIs .tuple) (xB 0))))) (tOrT (xTest (xOp fNe (.ex (xOne fLen (xB 0))) (xO (xC (.int 3))))) (tNotT (tTru (xO (xOne (fIs .str) (xO (xOp fIxA (.br 0) (xO (xC (.int 0)))))))))))
 (sRet (xC (.int 0)))
 sNil)
 (sSeq (sIf (xTest (xOp fEq (.ex (xOp fIxA (.br 0) (xO (xC (.int 0))))) (xO (xC (.str "leaf")))))
 (sSeq (sAsg (xOne fAll (xO (xLk none (xLc (iA (xSlc (.br 0) (pAt (xO (xC (.int 1)))) pNo)) (gV 6) tTrue (xAnd (xOne (fIs .int) (xB 6)) (xNot (xOne (fIs .bool) (xB 6)))) [6])))) (gV 3))
 (sRet (xOne fInt (xO (xAnd (xV 3) (xAnd (xChn fLe fLt (xC (.int 0)) (xOp fIxA (.br 0) (xO (xC (.int 1)))) (xB 1)) (xOp (fInA false) (.ex (xOp fIxA (.br 0) (xO (xC (.int 2))))) (xO (xLst (xCons (xC (.int 0)) (xCons (xC (.int 1)) xNil)))))))))))
 sNil)
 (sSeq (sIf (tOrT (xTest (xOp (fInA true) (.ex (xOp fIxA (.br 0) (xO (xC (.int 0))))) (xO (xLst (xCons (xC (.str "and")) (xCons (xC (.str "or")) xNil)))))) (xTest (xOp fEq (.br 2) (xO (xC (.int 0))))))
 (sRet (xC (.int 0)))
 sNil)
 (sSeq (sPar 4 5 (xCall0 3 φ (xCons (xOp fIxA (.br 0) (xO (xC (.int 1)))) (xCons (xV 1) (xCons (xOp fSub (.br 2) (xO (xC (.int 1)))) xNil)))) (xCall0 3 φ (xCons (xOp fIxA (.br 0) (xO (xC (.int 2)))) (xCons (xV 1) (xCons (xOp fSub (.br 2) (xO (xC (.int 1)))) xNil)))))
 (sRet (xIf (tAndT (xTest (xOp fGt (.br 4) (xO (xC (.int 0))))) (tAndT (xTest (xOp fGt (.br 5) (xO (xC (.int 0))))) (xTest (xOp fLe (.ex (xOp fAdd (.br 4) (xB 5))) (xO (xC (.int 64))))))) (xOp fAdd (.br 4) (xB 5)) (xC (.int 0))))))))
def F__law_count : Nat → XF
  | 0 => fun _ => .st
  | n + 1 => fnD (b__law_count (F__law_count n)) [false, false, false] 4
theorem g__law_count (T : Tx C mg) : ∀ n : Nat, GF C P w mg base (0 + n) "_law_count" [false, false, false] (F__law_count n)
  | 0 => gf_st T.d__law_count rfl
  | n + 1 => by
    have ih := g__law_count T n
    have nd : (["value", "n", "levels", "good", "one", "two", "item"] : List Str).Nodup := by decide
    refine gf_def (k := 0 + n) (body := b__law_count (F__law_count n)) T.d__law_count sc__law_count rfl rfl rfl fun f cdv A outer s H E hr => ?_
    exact (
     (gss_cons (gs_if (gt_w (gw_or (gt_not (gt_tru rfl (go_e (ge_isi .tuple rfl (glk (by kernel_rfl)) T.b_isinstance (glk (by kernel_rfl)) T.b_tuple PyProof.Rows.boot_tuple (go_v (i := 0) rfl (Or.inl (by kernel_rfl))))))) (gw_or (gt_cmp (op_neD (hu64 hr)) ok_ne (gl_e (ge_len rfl (glk (by kernel_rfl)) T.b_len (go_v (i := 0) rfl (Or.inl (by kernel_rfl))))) (go_e ge_int) (nomark _)) (gw_or1 (gt_not (gt_tru rfl (go_e (ge_isi .str rfl (glk (by kernel_rfl)) T.b_isinstance (glk (by kernel_rfl)) T.b_str PyProof.Rows.boot_str (go_e (ge_ix (ix_all (hu_of hr.r)) ok_ixAll (gl_v (i := 0) rfl (Or.inl (by kernel_rfl))) (go_e ge_int) (fun _ _ => rfl)))))))))))
 (gss_one (gs_ret ge_int))
 gss_nil)
 (gss_cons (gs_if (gt_cmp (op_eqD (hu64 hr)) ok_eq (gl_e (ge_ix (ix_all (hu_of hr.r)) ok_ixAll (gl_v (i := 0) rfl (Or.inl (by kernel_rfl))) (go_e ge_int) (fun _ _ => rfl))) (go_e ge_str) (nomark _))
 (gss_cons (gs_asg (ge_b1 (cr_all rfl) ok_all PyProof.Rows.boot_all (glk (by kernel_rfl)) T.b_all (go_e (ge_lc (own := [("item", 6)]) none rfl nd (gi_a rfl (ge_slice rfl (gl_v (i := 0) rfl (Or.inl (by kernel_rfl))) (gp_at (go_e ge_int)) gp_no)) (blkOk_by (by kernel_rfl)) (fun _ _ _ _ _ => (gg_v (i := 6) nd rfl (Or.inl (by kernel_rfl)) (oth_not (by decide)))) (fun _ _ _ _ _ => gts_nil) (fun _ _ _ _ _ => (ge_and (ge_isi .int rfl (glk (by kernel_rfl)) T.b_isinstance (glk (by kernel_rfl)) T.b_int PyProof.Rows.boot_int (go_v (i := 6) rfl (Or.inl (by kernel_rfl)))) (ge_one (ge_not (ge_isi .bool rfl (glk (by kernel_rfl)) T.b_isinstance (glk (by kernel_rfl)) T.b_bool PyProof.Rows.boot_bool (go_v (i := 6) rfl (Or.inl (by kernel_rfl))))))))))) (gg_v (i := 3) nd rfl (Or.inl (by kernel_rfl)) (by decide)))
 (gss_one (gs_ret (ge_ty1 (call_int1) ok_int PyProof.Rows.boot_int (glk (by kernel_rfl)) T.b_int (go_e (ge_and (ge_v (i := 3) rfl (Or.inl (by kernel_rfl))) (ge_and (ge_chain op_le op_lt okB okB ge_int (ge_ix (ix_all (hu_of hr.r)) ok_ixAll (gl_v (i := 0) rfl (Or.inl (by kernel_rfl))) (go_e ge_int) (fun _ _ => rfl)) (go_v (i := 1) rfl (Or.inl (by kernel_rfl)))) (ge_one (ge_cmp (op_inAll (hu_of hr.r)) ok_inAll (gl_e (ge_ix (ix_all (hu_of hr.r)) ok_ixAll (gl_v (i := 0) rfl (Or.inl (by kernel_rfl))) (go_e ge_int) (fun _ _ => rfl))) (go_e (ge_lst (ga_cons ge_int (ga_cons ge_int ga_nil)))) rfl)))))))))
 gss_nil)
 (gss_cons (gs_if (gt_w (gw_or (gt_cmp (op_notInAll (hu_of hr.r)) ok_inAll (gl_e (ge_ix (ix_all (hu_of hr.r)) ok_ixAll (gl_v (i := 0) rfl (Or.inl (by kernel_rfl))) (go_e ge_int) (fun _ _ => rfl))) (go_e (ge_lst (ga_cons ge_str (ga_cons ge_str ga_nil)))) rfl) (gw_or1 (gt_cmp (op_eqD (hu64 hr)) ok_eq (gl_v (i := 2) rfl (Or.inl (by kernel_rfl))) (go_e ge_int) (nomark _)))))
 (gss_one (gs_ret ge_int))
 gss_nil)
 (gss_cons (gs_par (i := 4) (j := 5) rfl nd rfl rfl (by decide) (by kernel_rfl) (by kernel_rfl) (ge_call0 (n := 3) ih rfl (takes_of rfl rfl rfl rfl) hr (glk (by kernel_rfl)) (ga_cons (ge_ix (ix_all (hu_of hr.r)) ok_ixAll (gl_v (i := 0) rfl (Or.inl (by kernel_rfl))) (go_e ge_int) (fun _ _ => rfl)) (ga_cons (ge_v (i := 1) rfl (Or.inl (by kernel_rfl))) (ga_cons (ge_op op_sub ok_sub (gl_v (i := 2) rfl (Or.inl (by kernel_rfl))) (go_e ge_int)) ga_nil)))) (ge_call0 (n := 3) ih rfl (takes_of rfl rfl rfl rfl) hr (glk (by kernel_rfl)) (ga_cons (ge_ix (ix_all (hu_of hr.r)) ok_ixAll (gl_v (i := 0) rfl (Or.inl (by kernel_rfl))) (go_e ge_int) (fun _ _ => rfl)) (ga_cons (ge_v (i := 1) rfl (Or.inl (by kernel_rfl))) (ga_cons (ge_op op_sub ok_sub (gl_v (i := 2) rfl (Or.inl (by kernel_rfl))) (go_e ge_int)) ga_nil)))) (by decide) (by decide) (by kernel_rfl))
 (gss_one (gs_ret (ge_if (gt_w (gw_and (gt_cmp op_gt okB (gl_v (i := 4) rfl (Or.inl (by kernel_rfl))) (go_e ge_int) (nomark _)) (gw_and (gt_cmp op_gt okB (gl_v (i := 5) rfl (Or.inl (by kernel_rfl))) (go_e ge_int) (nomark _)) (gw_and1 (gt_cmp op_le okB (gl_e (ge_op op_addA ok_add (gl_v (i := 4) rfl (Or.inl (by kernel_rfl))) (go_v (i := 5) rfl (Or.inl (by kernel_rfl))))) (go_e ge_int) (nomark _)))))) (ge_op op_addA ok_add (gl_v (i := 4) rfl (Or.inl (by kernel_rfl))) (go_v (i := 5) rfl (Or.inl (by kernel_rfl)))) ge_int))))))))
def b__law_levels (φ : XF) : SF :=
 (sRet (xIf (xTest (xOp fEq (.ex (xOp fIxA (.br 0) (xO (xC (.int 0))))) (xO (xC (.str "leaf"))))) (xC (.int 0)) (xOp fAdd (.ex (xC (.int 1))) (xO (xOp fMax2 (.ex (xCall0 1 φ (xCons (xOp fIxA (.br 0) (xO (xC (.int 1)))) xNil))) (xO (xCall0 1 φ (xCons (xOp fIxA (.br 0) (xO (xC (.int 2)))) xNil))))))))
def F__law_levels : Nat → XF
  | 0 => fun _ => .st
  | n + 1 => fnD (b__law_levels (F__law_levels n)) [false] 0
theorem g__law_levels (T : Tx C mg) : ∀ n : Nat, GF C P w mg base (0 + n) "_law_levels" [false] (F__law_levels n)
  | 0 => gf_st T.d__law_levels rfl
  | n + 1 => by
    have ih := g__law_levels T n
    have nd : (["formula"] : List Str).Nodup := by decide
    refine gf_def (k := 0 + n) (body := b__law_levels (F__law_levels n)) T.d__law_levels sc__law_levels rfl rfl rfl fun f cdv A outer s H E hr => ?_
    exact (
     (gss_one (gs_ret (ge_if (gt_cmp (op_eqD (hu64 hr)) ok_eq (gl_e (ge_ix (ix_all (hu_of hr.r)) ok_ixAll (gl_v (i := 0) rfl (Or.inl (by kernel_rfl))) (go_e ge_int) (fun _ _ => rfl))) (go_e ge_str) (nomark _)) ge_int (ge_op op_addA ok_add (gl_e ge_int) (go_e (ge_b2 (call_max2 rfl) ok_max2 PyProof.Rows.boot_max (glk (by kernel_rfl)) T.b_max (gl_e (ge_call0 (n := 1) ih rfl (takes_of rfl rfl rfl rfl) hr (glk (by kernel_rfl)) (ga_cons (ge_ix (ix_all (hu_of hr.r)) ok_ixAll (gl_v (i := 0) rfl (Or.inl (by kernel_rfl))) (go_e ge_int) (fun _ _ => rfl)) ga_nil))) (go_e (ge_call0 (n := 1) ih rfl (takes_of rfl rfl rfl rfl) hr (glk (by kernel_rfl)) (ga_cons (ge_ix (ix_all (hu_of hr.r)) ok_ixAll (gl_v (i := 0) rfl (Or.inl (by kernel_rfl))) (go_e ge_int) (fun _ _ => rfl)) ga_nil))))))))))
def b__law_plain (φ : XF) : SF :=
 (sRet (xIf (xTest (xOp fEq (.ex (xOp fIxA (.br 0) (xO (xC (.int 0))))) (xO (xC (.str "leaf"))))) (xOp fEq (.ex (xOp fIxA (.br 0) (xO (xC (.int 2))))) (xO (xC (.int 1)))) (xAnd (xCall0 1 φ (xCons (xOp fIxA (.br 0) (xO (xC (.int 1)))) xNil)) (xCall0 1 φ (xCons (xOp fIxA (.br 0) (xO (xC (.int 2)))) xNil)))))
def F__law_plain : Nat → XF
  | 0 => fun _ => .st
  | n + 1 => fnD (b__law_plain (F__law_plain n)) [false] 0
theorem g__law_plain (T : Tx C mg) : ∀ n : Nat, GF C P w mg base (0 + n) "_law_plain" [false] (F__law_plain n)
  | 0 => gf_st T.d__law_plain rfl
  | n + 1 => by
    have ih := g__law_plain T n
    have nd : (["formula"] : List Str).Nodup := by decide
    refine gf_def (k := 0 + n) (body := b__law_plain (F__law_plain n)) T.d__law_plain sc__law_plain rfl rfl rfl fun f cdv A outer s H E hr => ?_
    exact (
     (gss_one (gs_ret (ge_if (gt_cmp (op_eqD (hu64 hr)) ok_eq (gl_e (ge_ix (ix_all (hu_of hr.r)) ok_ixAll (gl_v (i := 0) rfl (Or.inl (by kernel_rfl))) (go_e ge_int) (fun _ _ => rfl))) (go_e ge_str) (nomark _)) (ge_cmp (op_eqD (hu64 hr)) ok_eq (gl_e (ge_ix (ix_all (hu_of hr.r)) ok_ixAll (gl_v (i := 0) rfl (Or.inl (by kernel_rfl))) (go_e ge_int) (fun _ _ => rfl))) (go_e ge_int) (nomark _)) (ge_and (ge_call0 (n := 1) ih rfl (takes_of rfl rfl rfl rfl) hr (glk (by kernel_rfl)) (ga_cons (ge_ix (ix_all (hu_of hr.r)) ok_ixAll (gl_v (i := 0) rfl (Or.inl (by kernel_rfl))) (go_e ge_int) (fun _ _ => rfl)) ga_nil)) (ge_one (ge_call0 (n := 1) ih rfl (takes_of rfl rfl rfl rfl) hr (glk (by kernel_rfl)) (ga_cons (ge_ix (ix_all (hu_of hr.r)) ok_ixAll (gl_v (i := 0) rfl (Or.inl (by kernel_rfl))) (go_e ge_int) (fun _ _ => rfl)) ga_nil))))))))
def b__law_says : SF :=
 (sRet (xAnd (xOne (fIs .bool) (xB 0)) (xOp fEq (.br 0) (xB 1))))
def F__law_says : XF := fnD b__law_says [false, false] 0
theorem g__law_says (T : Tx C mg) : GF C P w mg base 1 "_law_says" [false, false] F__law_says := by
  have nd : (["value", "due"] : List Str).Nodup := by decide
  refine gf_def (body := b__law_says) T.d__law_says sc__law_says rfl rfl rfl fun f cdv A outer s H E hr => ?_
  exact
 (gss_one (gs_ret (ge_and (ge_isi .bool rfl (glk (by kernel_rfl)) T.b_isinstance (glk (by kernel_rfl)) T.b_bool PyProof.Rows.boot_bool (go_v (i := 0) rfl (Or.inl (by kernel_rfl)))) (ge_one (ge_cmp (op_eqD (hu64 hr)) ok_eq (gl_v (i := 0) rfl (Or.inl (by kernel_rfl))) (go_v (i := 1) rfl (Or.inl (by kernel_rfl))) (nomark _))))))
def b_is_whole : SF :=
 (sRet (xAnd (xOne (fIs .int) (xB 0)) (xNot (xOne (fIs .bool) (xB 0)))))
def F_is_whole : XF := fnD b_is_whole [false] 0
theorem g_is_whole (T : Tx C mg) : GF C P w mg base 1 "is_whole" [false] F_is_whole := by
  have nd : (["value"] : List Str).Nodup := by decide
  refine gf_def (body := b_is_whole) T.d_is_whole sc_is_whole rfl rfl rfl fun f cdv A outer s H E hr => ?_
  exact
 (gss_one (gs_ret (ge_and (ge_isi .int rfl (glk (by kernel_rfl)) T.b_isinstance (glk (by kernel_rfl)) T.b_int PyProof.Rows.boot_int (go_v (i := 0) rfl (Or.inl (by kernel_rfl)))) (ge_one (ge_not (ge_isi .bool rfl (glk (by kernel_rfl)) T.b_isinstance (glk (by kernel_rfl)) T.b_bool PyProof.Rows.boot_bool (go_v (i := 0) rfl (Or.inl (by kernel_rfl)))))))))
def b_check_number : SF :=
 (sIf (tOrT (tNotT (tTru (xO (xCall0 1 F_is_whole (xCons (xV 0) xNil))))) (tNotT (xTest (xChn fLe fLe (xC (.int 1)) (xV 0) (xO (xC d_MOST_VARIABLES))))))
 (sRaise 0)
 sNil)
def F_check_number : XF := fnD b_check_number [false] 0
theorem g_check_number (T : Tx C mg) : GF C P w mg base 2 "check_number" [false] F_check_number := by
  have nd : (["n"] : List Str).Nodup := by decide
  refine gf_def (body := b_check_number) T.d_check_number sc_check_number rfl rfl rfl fun f cdv A outer s H E hr => ?_
  exact
 (gss_one (gs_if (gt_w (gw_or (gt_not (gt_tru rfl (go_e (ge_call0 (n := 1) ((g_is_whole T).mono (by omega)) rfl (takes_of rfl rfl rfl rfl) hr (glk (by kernel_rfl)) (ga_cons (ge_v (i := 0) rfl (Or.inl (by kernel_rfl))) ga_nil))))) (gw_or1 (gt_not (gt_chain op_le op_le okB okB ge_int (ge_v (i := 0) rfl (Or.inl (by kernel_rfl))) (go_e (ge_g (glk (by kernel_rfl)) T.g_MOST_VARIABLES)))))))
 (gss_one (T.x_Malformed.raise rfl rfl (takes_of rfl rfl rfl rfl) (glk (by kernel_rfl))))
 gss_nil))
def b_is_leaf : SF :=
 (sSeq (sIf (tOrT (xTest (xOp fNe (.ex (xOne fLen (xB 0))) (xO (xC (.int 3))))) (tOrT (tNotT (tTru (xO (xCall0 1 F_is_whole (xCons (xOp fIxA (.br 0) (xO (xC (.int 1)))) xNil))))) (tNotT (tTru (xO (xCall0 1 F_is_whole (xCons (xOp fIxA (.br 0) (xO (xC (.int 2)))) xNil)))))))
 (sRet (xC (.bool false)))
 sNil)
 (sRet (xAnd (xChn fLe fLt (xC (.int 0)) (xOp fIxA (.br 0) (xO (xC (.int 1)))) (xB 1)) (xChn fLe fLe (xC (.int 0)) (xOp fIxA (.br 0) (xO (xC (.int 2)))) (xO (xC (.int 1)))))))
def F_is_leaf : XF := fnD b_is_leaf [false, false] 0
theorem g_is_leaf (T : Tx C mg) : GF C P w mg base 2 "is_leaf" [false, false] F_is_leaf := by
  have nd : (["value", "n"] : List Str).Nodup := by decide
  refine gf_def (body := b_is_leaf) T.d_is_leaf sc_is_leaf rfl rfl rfl fun f cdv A outer s H E hr => ?_
  exact
 (gss_cons (gs_if (gt_w (gw_or (gt_cmp (op_neD (hu64 hr)) ok_ne (gl_e (ge_len rfl (glk (by kernel_rfl)) T.b_len (go_v (i := 0) rfl (Or.inl (by kernel_rfl))))) (go_e ge_int) (nomark _)) (gw_or (gt_not (gt_tru rfl (go_e (ge_call0 (n := 1) ((g_is_whole T).mono (by omega)) rfl (takes_of rfl rfl rfl rfl) hr (glk (by kernel_rfl)) (ga_cons (ge_ix (ix_all (hu_of hr.r)) ok_ixAll (gl_v (i := 0) rfl (Or.inl (by kernel_rfl))) (go_e ge_int) (fun _ _ => rfl)) ga_nil))))) (gw_or1 (gt_not (gt_tru rfl (go_e (ge_call0 (n := 1) ((g_is_whole T).mono (by omega)) rfl (takes_of rfl rfl rfl rfl) hr (glk (by kernel_rfl)) (ga_cons (ge_ix (ix_all (hu_of hr.r)) ok_ixAll (gl_v (i := 0) rfl (Or.inl (by kernel_rfl))) (go_e ge_int) (fun _ _ => rfl)) ga_nil)))))))))
 (gss_one (gs_ret ge_bl))
 gss_nil)
 (gss_one (gs_ret (ge_and (ge_chain op_le op_lt okB okB ge_int (ge_ix (ix_all (hu_of hr.r)) ok_ixAll (gl_v (i := 0) rfl (Or.inl (by kernel_rfl))) (go_e ge_int) (fun _ _ => rfl)) (go_v (i := 1) rfl (Or.inl (by kernel_rfl)))) (ge_one (ge_chain op_le op_le okB okB ge_int (ge_ix (ix_all (hu_of hr.r)) ok_ixAll (gl_v (i := 0) rfl (Or.inl (by kernel_rfl))) (go_e ge_int) (fun _ _ => rfl)) (go_e ge_int)))))))
def b_count_leaves (φ : XF) : SF :=
 (sSeq (sIf (tOrT (tNotT (tTru (xO (xOne (fIs .tuple) (xB 0))))) (tOrT (xTest (xOp fNe (.ex (xOne fLen (xB 0))) (xO (xC (.int 3))))) (tNotT (tTru (xO (xOne (fIs .str) (xO (xOp fIxA (.br 0) (xO (xC (.int 0)))))))))))
 (sRet (xC .none))
 sNil)
 (sSeq (sIf (xTest (xOp fEq (.ex (xOp fIxA (.br 0) (xO (xC (.int 0))))) (xO (xC (.str "leaf")))))
 (sRet (xIf (tTru (xO (xCall0 2 F_is_leaf (xCons (xV 0) (xCons (xV 1) xNil))))) (xC (.int 1)) (xC .none)))
 sNil)
 (sSeq (sIf (tOrT (xTest (xOp (fInA true) (.ex (xOp fIxA (.br 0) (xO (xC (.int 0))))) (xO (xTup (xCons (xC (.str "and")) (xCons (xC (.str "or")) xNil)))))) (xTest (xOp fEq (.br 2) (xO (xC (.int 0))))))
 (sRet (xC .none))
 sNil)
 (sSeq (sAsg (xC (.int 0)) (gV 3))
 (sSeq (sFor (iA (xSlc (.br 0) (pAt (xO (xC (.int 1)))) pNo)) (gV 4)
 (sSeq (sAsg (xCall0 3 φ (xCons (xV 4) (xCons (xV 1) (xCons (xOp fSub (.br 2) (xO (xC (.int 1)))) xNil)))) (gV 5))
 (sSeq (sIf (tOrT (xTest (xOp fIsN (.br 5) (xO (xC .none)))) (xTest (xOp fGt (.ex (xOp fAdd (.br 3) (xB 5))) (xO (xC d_MOST_LEAVES)))))
 (sRet (xC .none))
 sNil)
 (sAug fAddS 3 (xB 5)))))
 (sRetV 3))))))
def F_count_leaves : Nat → XF
  | 0 => fun _ => .st
  | n + 1 => fnD (b_count_leaves (F_count_leaves n)) [false, false, false] 3
theorem g_count_leaves (T : Tx C mg) : ∀ n : Nat, GF C P w mg base (2 + n) "count_leaves" [false, false, false] (F_count_leaves n)
  | 0 => gf_st T.d_count_leaves rfl
  | n + 1 => by
    have ih := g_count_leaves T n
    have nd : (["value", "n", "levels", "found", "part", "count"] : List Str).Nodup := by decide
    refine gf_def (k := 2 + n) (body := b_count_leaves (F_count_leaves n)) T.d_count_leaves sc_count_leaves rfl rfl rfl fun f cdv A outer s H E hr => ?_
    exact (
     (gss_cons (gs_if (gt_w (gw_or (gt_not (gt_tru rfl (go_e (ge_isi .tuple rfl (glk (by kernel_rfl)) T.b_isinstance (glk (by kernel_rfl)) T.b_tuple PyProof.Rows.boot_tuple (go_v (i := 0) rfl (Or.inl (by kernel_rfl))))))) (gw_or (gt_cmp (op_neD (hu64 hr)) ok_ne (gl_e (ge_len rfl (glk (by kernel_rfl)) T.b_len (go_v (i := 0) rfl (Or.inl (by kernel_rfl))))) (go_e ge_int) (nomark _)) (gw_or1 (gt_not (gt_tru rfl (go_e (ge_isi .str rfl (glk (by kernel_rfl)) T.b_isinstance (glk (by kernel_rfl)) T.b_str PyProof.Rows.boot_str (go_e (ge_ix (ix_all (hu_of hr.r)) ok_ixAll (gl_v (i := 0) rfl (Or.inl (by kernel_rfl))) (go_e ge_int) (fun _ _ => rfl)))))))))))
 (gss_one (gs_ret ge_non))
 gss_nil)
 (gss_cons (gs_if (gt_cmp (op_eqD (hu64 hr)) ok_eq (gl_e (ge_ix (ix_all (hu_of hr.r)) ok_ixAll (gl_v (i := 0) rfl (Or.inl (by kernel_rfl))) (go_e ge_int) (fun _ _ => rfl))) (go_e ge_str) (nomark _))
 (gss_one (gs_ret (ge_if (gt_tru rfl (go_e (ge_call0 (n := 2) ((g_is_leaf T).mono (by omega)) rfl (takes_of rfl rfl rfl rfl) hr (glk (by kernel_rfl)) (ga_cons (ge_v (i := 0) rfl (Or.inl (by kernel_rfl))) (ga_cons (ge_v (i := 1) rfl (Or.inl (by kernel_rfl))) ga_nil))))) ge_int ge_non)))
 gss_nil)
 (gss_cons (gs_if (gt_w (gw_or (gt_cmp (op_notInAll (hu_of hr.r)) ok_inAll (gl_e (ge_ix (ix_all (hu_of hr.r)) ok_ixAll (gl_v (i := 0) rfl (Or.inl (by kernel_rfl))) (go_e ge_int) (fun _ _ => rfl))) (go_e (ge_tup (ga_cons ge_str (ga_cons ge_str ga_nil)))) rfl) (gw_or1 (gt_cmp (op_eqD (hu64 hr)) ok_eq (gl_v (i := 2) rfl (Or.inl (by kernel_rfl))) (go_e ge_int) (nomark _)))))
 (gss_one (gs_ret ge_non))
 gss_nil)
 (gss_cons (gs_asg ge_int (gg_v (i := 3) nd rfl (Or.inl (by kernel_rfl)) (by decide)))
 (gss_cons (gs_for (passes_of rfl) rfl (gi_a rfl (ge_slice rfl (gl_v (i := 0) rfl (Or.inl (by kernel_rfl))) (gp_at (go_e ge_int)) gp_no)) (gg_v (i := 4) nd rfl (Or.inl (by kernel_rfl)) (by decide))
 (gss_cons (gs_asg (ge_call0 (n := 3) ih rfl (takes_of rfl rfl rfl rfl) hr (glk (by kernel_rfl)) (ga_cons (ge_v (i := 4) rfl (Or.inl (by kernel_rfl))) (ga_cons (ge_v (i := 1) rfl (Or.inl (by kernel_rfl))) (ga_cons (ge_op op_sub ok_sub (gl_v (i := 2) rfl (Or.inl (by kernel_rfl))) (go_e ge_int)) ga_nil)))) (gg_v (i := 5) nd rfl (Or.inl (by kernel_rfl)) (by decide)))
 (gss_cons (gs_if (gt_w (gw_or (gt_cmp op_isN ok_isN (gl_v (i := 5) rfl (Or.inl (by kernel_rfl))) (go_e ge_non) (nomark _)) (gw_or1 (gt_cmp op_gt okB (gl_e (ge_op op_addA ok_add (gl_v (i := 3) rfl (Or.inl (by kernel_rfl))) (go_v (i := 5) rfl (Or.inl (by kernel_rfl))))) (go_e (ge_g (glk (by kernel_rfl)) T.g_MOST_LEAVES)) (nomark _)))))
 (gss_one (gs_ret ge_non))
 gss_nil)
 (gss_one (gs_aug (i := 3) iop_addS ok_addS nd rfl (Or.inl (by kernel_rfl)) (go_v (i := 5) rfl (Or.inl (by kernel_rfl))) (by decide))))))
 (gss_one (gs_retV (i := 3) rfl (Or.inl (by kernel_rfl))))))))))
def b_is_formula : SF :=
 (sSeq (sExpr (xCall0 1 F_check_number (xCons (xV 0) xNil)))
 (sRet (xOp fNotN (.ex (xCall0 3 (F_count_leaves 30) (xCons (xV 1) (xCons (xV 0) (xCons (xC d_MOST_LEVELS) xNil))))) (xO (xC .none)))))
def F_is_formula : XF := fnD b_is_formula [false, false] 0
theorem g_is_formula (T : Tx C mg) : GF C P w mg base 33 "is_formula" [false, false] F_is_formula := by
  have nd : (["n", "value"] : List Str).Nodup := by decide
  refine gf_def (body := b_is_formula) T.d_is_formula sc_is_formula rfl rfl rfl fun f cdv A outer s H E hr => ?_
  exact
 (gss_cons (gs_expr (ge_call0 (n := 1) ((g_check_number T).mono (by omega)) rfl (takes_of rfl rfl rfl rfl) hr (glk (by kernel_rfl)) (ga_cons (ge_v (i := 0) rfl (Or.inl (by kernel_rfl))) ga_nil)))
 (gss_one (gs_ret (ge_cmp op_notN ok_notN (gl_e (ge_call0 (n := 3) ((g_count_leaves T 30).mono (by omega)) rfl (takes_of rfl rfl rfl rfl) hr (glk (by kernel_rfl)) (ga_cons (ge_v (i := 1) rfl (Or.inl (by kernel_rfl))) (ga_cons (ge_v (i := 0) rfl (Or.inl (by kernel_rfl))) (ga_cons (ge_g (glk (by kernel_rfl)) T.g_MOST_LEVELS) ga_nil))))) (go_e ge_non) (nomark _)))))
def b_check_formula : SF :=
 (sIf (tNotT (tTru (xO (xCall0 2 F_is_formula (xCons (xV 0) (xCons (xV 1) xNil))))))
 (sRaise 0)
 sNil)
def F_check_formula : XF := fnD b_check_formula [false, false] 0
theorem g_check_formula (T : Tx C mg) : GF C P w mg base 34 "check_formula" [false, false] F_check_formula := by
  have nd : (["n", "value"] : List Str).Nodup := by decide
  refine gf_def (body := b_check_formula) T.d_check_formula sc_check_formula rfl rfl rfl fun f cdv A outer s H E hr => ?_
  exact
 (gss_one (gs_if (gt_not (gt_tru rfl (go_e (ge_call0 (n := 2) ((g_is_formula T).mono (by omega)) rfl (takes_of rfl rfl rfl rfl) hr (glk (by kernel_rfl)) (ga_cons (ge_v (i := 0) rfl (Or.inl (by kernel_rfl))) (ga_cons (ge_v (i := 1) rfl (Or.inl (by kernel_rfl))) ga_nil))))))
 (gss_one (T.x_Malformed.raise rfl rfl (takes_of rfl rfl rfl rfl) (glk (by kernel_rfl))))
 gss_nil))
def b_leaf_table : SF :=
 (sRet (xOne fSum (xO (xLk none (xLc (iR1 (xCons (xOp fShl (.ex (xC (.int 1))) (xB 0)) xNil)) (gV 3) (xTest (xOp fEq (.ex (xOp fAnd (.ex (xOp fShr (.br 3) (xB 1))) (xO (xC (.int 1))))) (xB 2))) (xOp fShl (.ex (xC (.int 1))) (xB 3)) [3])))))
def F_leaf_table : XF := fnD b_leaf_table [false, false, false] 1
theorem g_leaf_table (T : Tx C mg) : GF C P w mg base 1 "leaf_table" [false, false, false] F_leaf_table := by
  have nd : (["n", "i", "bit", "x"] : List Str).Nodup := by decide
  refine gf_def (body := b_leaf_table) T.d_leaf_table sc_leaf_table rfl rfl rfl fun f cdv A outer s H E hr => ?_
  exact
 (gss_one (gs_ret (ge_b1 (cr_sum rfl) ok_sum PyProof.Rows.boot_sum (glk (by kernel_rfl)) T.b_sum (go_e (ge_lc (own := [("x", 3)]) none rfl nd (gi_r1 (glk (by kernel_rfl)) T.b_range (ga_cons (ge_op op_shl ok_shl (gl_e ge_int) (go_v (i := 0) rfl (Or.inl (by kernel_rfl)))) ga_nil)) (blkOk_by (by kernel_rfl)) (fun _ _ _ _ _ => (gg_v (i := 3) nd rfl (Or.inl (by kernel_rfl)) (oth_not (by decide)))) (fun _ _ _ _ _ => (gts_one (gt_cmp (op_eqD (hu64 hr)) ok_eq (gl_e (ge_op op_and ok_and (gl_e (ge_op op_shr ok_shr (gl_v (i := 3) rfl (Or.inl (by kernel_rfl))) (go_v (i := 1) rfl (Or.inr (Or.inl (by kernel_rfl)))))) (go_e ge_int))) (go_v (i := 2) rfl (Or.inr (Or.inl (by kernel_rfl)))) (nomark _)))) (fun _ _ _ _ _ => (ge_op op_shl ok_shl (gl_e ge_int) (go_v (i := 3) rfl (Or.inl (by kernel_rfl))))))))))
def b_table_of (φ : XF) : SF :=
 (sSeq (sIf (xTest (xOp fEq (.ex (xOp fIxA (.br 1) (xO (xC (.int 0))))) (xO (xC (.str "leaf")))))
 (sRet (xCall0 3 F_leaf_table (xCons (xV 0) (xCons (xOp fIxA (.br 1) (xO (xC (.int 1)))) (xCons (xOp fIxA (.br 1) (xO (xC (.int 2)))) xNil)))))
 sNil)
 (sSeq (sPar 2 3 (xCall0 2 φ (xCons (xV 0) (xCons (xOp fIxA (.br 1) (xO (xC (.int 1)))) xNil))) (xCall0 2 φ (xCons (xV 0) (xCons (xOp fIxA (.br 1) (xO (xC (.int 2)))) xNil))))
 (sRet (xIf (xTest (xOp fEq (.ex (xOp fIxA (.br 1) (xO (xC (.int 0))))) (xO (xC (.str "and"))))) (xOp fAnd (.br 2) (xB 3)) (xOp fOr (.br 2) (xB 3))))))
def F_table_of : Nat → XF
  | 0 => fun _ => .st
  | n + 1 => fnD (b_table_of (F_table_of n)) [false, false] 2
theorem g_table_of (T : Tx C mg) : ∀ n : Nat, GF C P w mg base (1 + n) "table_of" [false, false] (F_table_of n)
  | 0 => gf_st T.d_table_of rfl
  | n + 1 => by
    have ih := g_table_of T n
    have nd : (["n", "formula", "one", "two"] : List Str).Nodup := by decide
    refine gf_def (k := 1 + n) (body := b_table_of (F_table_of n)) T.d_table_of sc_table_of rfl rfl rfl fun f cdv A outer s H E hr => ?_
    exact (
     (gss_cons (gs_if (gt_cmp (op_eqD (hu64 hr)) ok_eq (gl_e (ge_ix (ix_all (hu_of hr.r)) ok_ixAll (gl_v (i := 1) rfl (Or.inl (by kernel_rfl))) (go_e ge_int) (fun _ _ => rfl))) (go_e ge_str) (nomark _))
 (gss_one (gs_ret (ge_call0 (n := 3) ((g_leaf_table T).mono (by omega)) rfl (takes_of rfl rfl rfl rfl) hr (glk (by kernel_rfl)) (ga_cons (ge_v (i := 0) rfl (Or.inl (by kernel_rfl))) (ga_cons (ge_ix (ix_all (hu_of hr.r)) ok_ixAll (gl_v (i := 1) rfl (Or.inl (by kernel_rfl))) (go_e ge_int) (fun _ _ => rfl)) (ga_cons (ge_ix (ix_all (hu_of hr.r)) ok_ixAll (gl_v (i := 1) rfl (Or.inl (by kernel_rfl))) (go_e ge_int) (fun _ _ => rfl)) ga_nil))))))
 gss_nil)
 (gss_cons (gs_par (i := 2) (j := 3) rfl nd rfl rfl (by decide) (by kernel_rfl) (by kernel_rfl) (ge_call0 (n := 2) ih rfl (takes_of rfl rfl rfl rfl) hr (glk (by kernel_rfl)) (ga_cons (ge_v (i := 0) rfl (Or.inl (by kernel_rfl))) (ga_cons (ge_ix (ix_all (hu_of hr.r)) ok_ixAll (gl_v (i := 1) rfl (Or.inl (by kernel_rfl))) (go_e ge_int) (fun _ _ => rfl)) ga_nil))) (ge_call0 (n := 2) ih rfl (takes_of rfl rfl rfl rfl) hr (glk (by kernel_rfl)) (ga_cons (ge_v (i := 0) rfl (Or.inl (by kernel_rfl))) (ga_cons (ge_ix (ix_all (hu_of hr.r)) ok_ixAll (gl_v (i := 1) rfl (Or.inl (by kernel_rfl))) (go_e ge_int) (fun _ _ => rfl)) ga_nil))) (by decide) (by decide) (by kernel_rfl))
 (gss_one (gs_ret (ge_if (gt_cmp (op_eqD (hu64 hr)) ok_eq (gl_e (ge_ix (ix_all (hu_of hr.r)) ok_ixAll (gl_v (i := 1) rfl (Or.inl (by kernel_rfl))) (go_e ge_int) (fun _ _ => rfl))) (go_e ge_str) (nomark _)) (ge_op op_and ok_and (gl_v (i := 2) rfl (Or.inl (by kernel_rfl))) (go_v (i := 3) rfl (Or.inl (by kernel_rfl)))) (ge_op op_or ok_or (gl_v (i := 2) rfl (Or.inl (by kernel_rfl))) (go_v (i := 3) rfl (Or.inl (by kernel_rfl))))))))))
def b_lamp_of : SF :=
 (sSeq (sExpr (xCall0 2 F_check_formula (xCons (xV 0) (xCons (xV 1) xNil))))
 (sRet (xTup (xCons (xV 0) (xCons (xCall0 2 (F_table_of 30) (xCons (xV 0) (xCons (xV 1) xNil))) xNil)))))
def F_lamp_of : XF := fnD b_lamp_of [false, false] 0
theorem g_lamp_of (T : Tx C mg) : GF C P w mg base 35 "lamp_of" [false, false] F_lamp_of := by
  have nd : (["n", "formula"] : List Str).Nodup := by decide
  refine gf_def (body := b_lamp_of) T.d_lamp_of sc_lamp_of rfl rfl rfl fun f cdv A outer s H E hr => ?_
  exact
 (gss_cons (gs_expr (ge_call0 (n := 2) ((g_check_formula T).mono (by omega)) rfl (takes_of rfl rfl rfl rfl) hr (glk (by kernel_rfl)) (ga_cons (ge_v (i := 0) rfl (Or.inl (by kernel_rfl))) (ga_cons (ge_v (i := 1) rfl (Or.inl (by kernel_rfl))) ga_nil))))
 (gss_one (gs_ret (ge_tup (ga_cons (ge_v (i := 0) rfl (Or.inl (by kernel_rfl))) (ga_cons (ge_call0 (n := 2) ((g_table_of T 30).mono (by omega)) rfl (takes_of rfl rfl rfl rfl) hr (glk (by kernel_rfl)) (ga_cons (ge_v (i := 0) rfl (Or.inl (by kernel_rfl))) (ga_cons (ge_v (i := 1) rfl (Or.inl (by kernel_rfl))) ga_nil))) ga_nil))))))
def b_leaves_of : SF :=
 (sSeq (sExpr (xCall0 2 F_check_formula (xCons (xV 0) (xCons (xV 1) xNil))))
 (sRet (xCall0 3 (F_count_leaves 30) (xCons (xV 1) (xCons (xV 0) (xCons (xC d_MOST_LEVELS) xNil))))))
def F_leaves_of : XF := fnD b_leaves_of [false, false] 0
theorem g_leaves_of (T : Tx C mg) : GF C P w mg base 35 "leaves_of" [false, false] F_leaves_of := by
  have nd : (["n", "formula"] : List Str).Nodup := by decide
  refine gf_def (body := b_leaves_of) T.d_leaves_of sc_leaves_of rfl rfl rfl fun f cdv A outer s H E hr => ?_
  exact
 (gss_cons (gs_expr (ge_call0 (n := 2) ((g_check_formula T).mono (by omega)) rfl (takes_of rfl rfl rfl rfl) hr (glk (by kernel_rfl)) (ga_cons (ge_v (i := 0) rfl (Or.inl (by kernel_rfl))) (ga_cons (ge_v (i := 1) rfl (Or.inl (by kernel_rfl))) ga_nil))))
 (gss_one (gs_ret (ge_call0 (n := 3) ((g_count_leaves T 30).mono (by omega)) rfl (takes_of rfl rfl rfl rfl) hr (glk (by kernel_rfl)) (ga_cons (ge_v (i := 1) rfl (Or.inl (by kernel_rfl))) (ga_cons (ge_v (i := 0) rfl (Or.inl (by kernel_rfl))) (ga_cons (ge_g (glk (by kernel_rfl)) T.g_MOST_LEVELS) ga_nil)))))))
def b_count_levels (φ : XF) : SF :=
 (sSeq (sIf (xTest (xOp fEq (.ex (xOp fIxA (.br 0) (xO (xC (.int 0))))) (xO (xC (.str "leaf")))))
 (sRet (xC (.int 0)))
 sNil)
 (sRet (xOp fAdd (.ex (xC (.int 1))) (xO (xOp fMax2 (.ex (xCall0 1 φ (xCons (xOp fIxA (.br 0) (xO (xC (.int 1)))) xNil))) (xO (xCall0 1 φ (xCons (xOp fIxA (.br 0) (xO (xC (.int 2)))) xNil))))))))
def F_count_levels : Nat → XF
  | 0 => fun _ => .st
  | n + 1 => fnD (b_count_levels (F_count_levels n)) [false] 0
theorem g_count_levels (T : Tx C mg) : ∀ n : Nat, GF C P w mg base (0 + n) "count_levels" [false] (F_count_levels n)
  | 0 => gf_st T.d_count_levels rfl
  | n + 1 => by
    have ih := g_count_levels T n
    have nd : (["formula"] : List Str).Nodup := by decide
    refine gf_def (k := 0 + n) (body := b_count_levels (F_count_levels n)) T.d_count_levels sc_count_levels rfl rfl rfl fun f cdv A outer s H E hr => ?_
    exact (
     (gss_cons (gs_if (gt_cmp (op_eqD (hu64 hr)) ok_eq (gl_e (ge_ix (ix_all (hu_of hr.r)) ok_ixAll (gl_v (i := 0) rfl (Or.inl (by kernel_rfl))) (go_e ge_int) (fun _ _ => rfl))) (go_e ge_str) (nomark _))
 (gss_one (gs_ret ge_int))
 gss_nil)
 (gss_one (gs_ret (ge_op op_addA ok_add (gl_e ge_int) (go_e (ge_b2 (call_max2 rfl) ok_max2 PyProof.Rows.boot_max (glk (by kernel_rfl)) T.b_max (gl_e (ge_call0 (n := 1) ih rfl (takes_of rfl rfl rfl rfl) hr (glk (by kernel_rfl)) (ga_cons (ge_ix (ix_all (hu_of hr.r)) ok_ixAll (gl_v (i := 0) rfl (Or.inl (by kernel_rfl))) (go_e ge_int) (fun _ _ => rfl)) ga_nil))) (go_e (ge_call0 (n := 1) ih rfl (takes_of rfl rfl rfl rfl) hr (glk (by kernel_rfl)) (ga_cons (ge_ix (ix_all (hu_of hr.r)) ok_ixAll (gl_v (i := 0) rfl (Or.inl (by kernel_rfl))) (go_e ge_int) (fun _ _ => rfl)) ga_nil))))))))))
def b_levels_of : SF :=
 (sSeq (sExpr (xCall0 2 F_check_formula (xCons (xV 0) (xCons (xV 1) xNil))))
 (sRet (xCall0 1 (F_count_levels 30) (xCons (xV 1) xNil))))
def F_levels_of : XF := fnD b_levels_of [false, false] 0
theorem g_levels_of (T : Tx C mg) : GF C P w mg base 35 "levels_of" [false, false] F_levels_of := by
  have nd : (["n", "formula"] : List Str).Nodup := by decide
  refine gf_def (body := b_levels_of) T.d_levels_of sc_levels_of rfl rfl rfl fun f cdv A outer s H E hr => ?_
  exact
 (gss_cons (gs_expr (ge_call0 (n := 2) ((g_check_formula T).mono (by omega)) rfl (takes_of rfl rfl rfl rfl) hr (glk (by kernel_rfl)) (ga_cons (ge_v (i := 0) rfl (Or.inl (by kernel_rfl))) (ga_cons (ge_v (i := 1) rfl (Or.inl (by kernel_rfl))) ga_nil))))
 (gss_one (gs_ret (ge_call0 (n := 1) ((g_count_levels T 30).mono (by omega)) rfl (takes_of rfl rfl rfl rfl) hr (glk (by kernel_rfl)) (ga_cons (ge_v (i := 1) rfl (Or.inl (by kernel_rfl))) ga_nil)))))
def b_all_plain (φ : XF) : SF :=
 (sSeq (sIf (xTest (xOp fEq (.ex (xOp fIxA (.br 0) (xO (xC (.int 0))))) (xO (xC (.str "leaf")))))
 (sRet (xOp fEq (.ex (xOp fIxA (.br 0) (xO (xC (.int 2))))) (xO (xC (.int 1)))))
 sNil)
 (sRet (xAnd (xCall0 1 φ (xCons (xOp fIxA (.br 0) (xO (xC (.int 1)))) xNil)) (xCall0 1 φ (xCons (xOp fIxA (.br 0) (xO (xC (.int 2)))) xNil)))))
def F_all_plain : Nat → XF
  | 0 => fun _ => .st
  | n + 1 => fnD (b_all_plain (F_all_plain n)) [false] 0
theorem g_all_plain (T : Tx C mg) : ∀ n : Nat, GF C P w mg base (0 + n) "all_plain" [false] (F_all_plain n)
  | 0 => gf_st T.d_all_plain rfl
  | n + 1 => by
    have ih := g_all_plain T n
    have nd : (["formula"] : List Str).Nodup := by decide
    refine gf_def (k := 0 + n) (body := b_all_plain (F_all_plain n)) T.d_all_plain sc_all_plain rfl rfl rfl fun f cdv A outer s H E hr => ?_
    exact (
     (gss_cons (gs_if (gt_cmp (op_eqD (hu64 hr)) ok_eq (gl_e (ge_ix (ix_all (hu_of hr.r)) ok_ixAll (gl_v (i := 0) rfl (Or.inl (by kernel_rfl))) (go_e ge_int) (fun _ _ => rfl))) (go_e ge_str) (nomark _))
 (gss_one (gs_ret (ge_cmp (op_eqD (hu64 hr)) ok_eq (gl_e (ge_ix (ix_all (hu_of hr.r)) ok_ixAll (gl_v (i := 0) rfl (Or.inl (by kernel_rfl))) (go_e ge_int) (fun _ _ => rfl))) (go_e ge_int) (nomark _))))
 gss_nil)
 (gss_one (gs_ret (ge_and (ge_call0 (n := 1) ih rfl (takes_of rfl rfl rfl rfl) hr (glk (by kernel_rfl)) (ga_cons (ge_ix (ix_all (hu_of hr.r)) ok_ixAll (gl_v (i := 0) rfl (Or.inl (by kernel_rfl))) (go_e ge_int) (fun _ _ => rfl)) ga_nil)) (ge_one (ge_call0 (n := 1) ih rfl (takes_of rfl rfl rfl rfl) hr (glk (by kernel_rfl)) (ga_cons (ge_ix (ix_all (hu_of hr.r)) ok_ixAll (gl_v (i := 0) rfl (Or.inl (by kernel_rfl))) (go_e ge_int) (fun _ _ => rfl)) ga_nil))))))))
def b_is_plain : SF :=
 (sSeq (sExpr (xCall0 2 F_check_formula (xCons (xV 0) (xCons (xV 1) xNil))))
 (sRet (xCall0 1 (F_all_plain 30) (xCons (xV 1) xNil))))
def F_is_plain : XF := fnD b_is_plain [false, false] 0
theorem g_is_plain (T : Tx C mg) : GF C P w mg base 35 "is_plain" [false, false] F_is_plain := by
  have nd : (["n", "formula"] : List Str).Nodup := by decide
  refine gf_def (body := b_is_plain) T.d_is_plain sc_is_plain rfl rfl rfl fun f cdv A outer s H E hr => ?_
  exact
 (gss_cons (gs_expr (ge_call0 (n := 2) ((g_check_formula T).mono (by omega)) rfl (takes_of rfl rfl rfl rfl) hr (glk (by kernel_rfl)) (ga_cons (ge_v (i := 0) rfl (Or.inl (by kernel_rfl))) (ga_cons (ge_v (i := 1) rfl (Or.inl (by kernel_rfl))) ga_nil))))
 (gss_one (gs_ret (ge_call0 (n := 1) ((g_all_plain T 30).mono (by omega)) rfl (takes_of rfl rfl rfl rfl) hr (glk (by kernel_rfl)) (ga_cons (ge_v (i := 1) rfl (Or.inl (by kernel_rfl))) ga_nil)))))
def b__law_told : SF :=
 (sTry (sSeq (sIf (xTest (xOp fEq (.br 0) (xO (xC (.int 0)))))
 (sRet (xCall0 2 F_lamp_of (xCons (xV 1) (xCons (xV 2) xNil))))
 sNil)
 (sSeq (sIf (xTest (xOp fEq (.br 0) (xO (xC (.int 1)))))
 (sRet (xCall0 2 F_leaves_of (xCons (xV 1) (xCons (xV 2) xNil))))
 sNil)
 (sSeq (sIf (xTest (xOp fEq (.br 0) (xO (xC (.int 2)))))
 (sRet (xCall0 2 F_levels_of (xCons (xV 1) (xCons (xV 2) xNil))))
 sNil)
 (sRet (xIf (xTest (xOp fEq (.br 0) (xO (xC (.int 3))))) (xCall0 2 F_is_plain (xCons (xV 1) (xCons (xV 2) xNil))) (xCall0 2 F_is_formula (xCons (xV 1) (xCons (xV 2) xNil))))))))
 [(m_Malformed, (sRet (xC (.str "<malformed>"))))])
def F__law_told : XF := fnD b__law_told [false, false, false] 0
theorem g__law_told (T : Tx C mg) : GF C P w mg base 36 "_law_told" [false, false, false] F__law_told := by
  have nd : (["which", "n", "formula"] : List Str).Nodup := by decide
  refine gf_def (body := b__law_told) T.d__law_told sc__law_told rfl rfl rfl fun f cdv A outer s H E hr => ?_
  exact
 (gss_one (gs_try rfl rfl rfl (takes_of rfl rfl rfl rfl) (fun W pn xe tk hp => (gss_cons (gs_if (gt_cmp (op_eqD (hu64 hr)) ok_eq (gl_v (i := 0) rfl (Or.inl (by kernel_rfl))) (go_e ge_int) (nomark _))
 (gss_one (gs_ret (ge_call0 (n := 2) ((g_lamp_of T).mono (by omega)) rfl tk hr (glk (by kernel_rfl)) (ga_cons (ge_v (i := 1) rfl (Or.inl (by kernel_rfl))) (ga_cons (ge_v (i := 2) rfl (Or.inl (by kernel_rfl))) ga_nil)))))
 gss_nil)
 (gss_cons (gs_if (gt_cmp (op_eqD (hu64 hr)) ok_eq (gl_v (i := 0) rfl (Or.inl (by kernel_rfl))) (go_e ge_int) (nomark _))
 (gss_one (gs_ret (ge_call0 (n := 2) ((g_leaves_of T).mono (by omega)) rfl tk hr (glk (by kernel_rfl)) (ga_cons (ge_v (i := 1) rfl (Or.inl (by kernel_rfl))) (ga_cons (ge_v (i := 2) rfl (Or.inl (by kernel_rfl))) ga_nil)))))
 gss_nil)
 (gss_cons (gs_if (gt_cmp (op_eqD (hu64 hr)) ok_eq (gl_v (i := 0) rfl (Or.inl (by kernel_rfl))) (go_e ge_int) (nomark _))
 (gss_one (gs_ret (ge_call0 (n := 2) ((g_levels_of T).mono (by omega)) rfl tk hr (glk (by kernel_rfl)) (ga_cons (ge_v (i := 1) rfl (Or.inl (by kernel_rfl))) (ga_cons (ge_v (i := 2) rfl (Or.inl (by kernel_rfl))) ga_nil)))))
 gss_nil)
 (gss_one (gs_ret (ge_if (gt_cmp (op_eqD (hu64 hr)) ok_eq (gl_v (i := 0) rfl (Or.inl (by kernel_rfl))) (go_e ge_int) (nomark _)) (ge_call0 (n := 2) ((g_is_plain T).mono (by omega)) rfl tk hr (glk (by kernel_rfl)) (ga_cons (ge_v (i := 1) rfl (Or.inl (by kernel_rfl))) (ga_cons (ge_v (i := 2) rfl (Or.inl (by kernel_rfl))) ga_nil))) (ge_call0 (n := 2) ((g_is_formula T).mono (by omega)) rfl tk hr (glk (by kernel_rfl)) (ga_cons (ge_v (i := 1) rfl (Or.inl (by kernel_rfl))) (ga_cons (ge_v (i := 2) rfl (Or.inl (by kernel_rfl))) ga_nil))))))))))
 (.cons ⟨glk (by kernel_rfl), by decide, .inl T.x_Malformed.g⟩ T.m_Malformed (fun _ _ _ => (gss_one (gs_ret ge_str))) .nil)))
def b__law_bent_formula (φ : XF) : SF :=
 (sSeq (sIf (tAndT (tTru (xO (xOne (fIs .tuple) (xB 1)))) (tAndT (xTest (xOp fGt (.ex (xOne fLen (xB 1))) (xO (xC (.int 0))))) (xTest (xOp fGt (.ex (xCallD 0 1 F__law_take (xCons (xC (.int 4)) xNil))) (xO (xC (.int 0)))))))
 (sSeq (sAsg (xCallD 0 1 F__law_take (xCons (xOne fLen (xB 1)) xNil)) (gV 2))
 (sRet (xOp fAdd (.ex (xOp fAdd (.ex (xSlc (.br 1) pNo (pAt (xB 2)))) (xO (xTup (xCons (xCallD 0 1 φ (xCons (xOp fIxA (.br 1) (xB 2)) xNil)) xNil))))) (xO (xSlc (.br 1) (pAt (xO (xOp fAdd (.br 2) (xO (xC (.int 1)))))) pNo)))))
 sNil)
 (sSeq (sIf (tTru (xO (xOne (fIs .tuple) (xB 1))))
 (sRet (xOp fIxA (.ex (xLst (xCons (xOne fList (xB 1)) (xCons (xOp fAdd (.br 1) (xO (xTup (xCons (xC (.int 0)) xNil)))) (xCons (xSlc (.br 1) pNo (pAt (xO (xOne fNeg (xO (xC (.int 1))))))) (xCons (xOne fRevA (xB 1)) (xCons (xC .none) (xCons (xTup xNil) (xCons (xTup (xCons (xC (.str "leaf")) (xCons (xC (.int 0)) (xCons (xC (.int 1)) xNil)))) (xCons (xTup (xCons (xC (.str "leaf")) (xCons (xC (.int 4)) (xCons (xC (.int 0)) xNil)))) xNil)))))))))) (xO (xCallD 0 1 F__law_take (xCons (xC (.int 8)) xNil)))))
 sNil)
 (sSeq (sIf (tTru (xO (xOne (fIs .str) (xB 1))))
 (sRet (xOp fIxA (.ex (xLst (xCons (xC (.str "and")) (xCons (xC (.str "or")) (xCons (xC (.str "leaf")) (xCons (xC (.str "not")) (xCons (xC .none) xNil))))))) (xO (xCallD 0 1 F__law_take (xCons (xC (.int 5)) xNil)))))
 sNil)
 (sRet (xOp fIxA (.ex (xLst (xCons (xC (.int 0)) (xCons (xC (.int 1)) (xCons (xOp fAdd (.br 1) (xO (xC (.int 1)))) (xCons (xOp fSub (.br 1) (xO (xC (.int 1)))) (xCons (xC (.bool true)) (xCons (xC .none) xNil)))))))) (xO (xCallD 0 1 F__law_take (xCons (xC (.int 6)) xNil))))))))
def F__law_bent_formula : Nat → XF
  | 0 => fun _ => .st
  | n + 1 => fnD (b__law_bent_formula (F__law_bent_formula n)) [true, false] 1
theorem g__law_bent_formula (T : Tx C mg) : ∀ n : Nat, GF C P w mg base (1 + n) "_law_bent_formula" [true, false] (F__law_bent_formula n)
  | 0 => gf_st T.d__law_bent_formula rfl
  | n + 1 => by
    have ih := g__law_bent_formula T n
    have nd : (["draw", "data", "at"] : List Str).Nodup := by decide
    refine gf_def (k := 1 + n) (body := b__law_bent_formula (F__law_bent_formula n)) T.d__law_bent_formula sc__law_bent_formula rfl rfl rfl fun f cdv A outer s H E hr => ?_
    exact (
     (gss_cons (gs_if (gt_w (gw_and (gt_tru rfl (go_e (ge_isi .tuple rfl (glk (by kernel_rfl)) T.b_isinstance (glk (by kernel_rfl)) T.b_tuple PyProof.Rows.boot_tuple (go_v (i := 1) rfl (Or.inl (by kernel_rfl)))))) (gw_and (gt_cmp op_gt okB (gl_e (ge_len rfl (glk (by kernel_rfl)) T.b_len (go_v (i := 1) rfl (Or.inl (by kernel_rfl))))) (go_e ge_int) (nomark _)) (gw_and1 (gt_cmp op_gt okB (gl_e (ge_callD (i := 0) (n := 1) ((g__law_take T).mono (by omega)) rfl (takes_of rfl rfl rfl rfl) hr (glk (by kernel_rfl)) rfl (Or.inl (by kernel_rfl)) (ga_cons ge_int ga_nil))) (go_e ge_int) (nomark _))))))
 (gss_cons (gs_asg (ge_callD (i := 0) (n := 1) ((g__law_take T).mono (by omega)) rfl (takes_of rfl rfl rfl rfl) hr (glk (by kernel_rfl)) rfl (Or.inl (by kernel_rfl)) (ga_cons (ge_len rfl (glk (by kernel_rfl)) T.b_len (go_v (i := 1) rfl (Or.inl (by kernel_rfl)))) ga_nil)) (gg_v (i := 2) nd rfl (Or.inl (by kernel_rfl)) (by decide)))
 (gss_one (gs_ret (ge_op op_addA ok_add (gl_e (ge_op op_addA ok_add (gl_e (ge_slice rfl (gl_v (i := 1) rfl (Or.inl (by kernel_rfl))) gp_no (gp_at (go_v (i := 2) rfl (Or.inl (by kernel_rfl)))))) (go_e (ge_tup (ga_cons (ge_callD (i := 0) (n := 1) ih rfl (takes_of rfl rfl rfl rfl) hr (glk (by kernel_rfl)) rfl (Or.inl (by kernel_rfl)) (ga_cons (ge_ix (ix_all (hu_of hr.r)) ok_ixAll (gl_v (i := 1) rfl (Or.inl (by kernel_rfl))) (go_v (i := 2) rfl (Or.inl (by kernel_rfl))) (fun _ _ => rfl)) ga_nil)) ga_nil))))) (go_e (ge_slice rfl (gl_v (i := 1) rfl (Or.inl (by kernel_rfl))) (gp_at (go_e (ge_op op_addA ok_add (gl_v (i := 2) rfl (Or.inl (by kernel_rfl))) (go_e ge_int)))) gp_no))))))
 gss_nil)
 (gss_cons (gs_if (gt_tru rfl (go_e (ge_isi .tuple rfl (glk (by kernel_rfl)) T.b_isinstance (glk (by kernel_rfl)) T.b_tuple PyProof.Rows.boot_tuple (go_v (i := 1) rfl (Or.inl (by kernel_rfl))))))
 (gss_one (gs_ret (ge_ix (ix_all (hu_of hr.r)) ok_ixAll (gl_e (ge_lst (ga_cons (ge_ty1 (call_list_of) ok_list PyProof.Rows.boot_list (glk (by kernel_rfl)) T.b_list (go_v (i := 1) rfl (Or.inl (by kernel_rfl)))) (ga_cons (ge_op op_addA ok_add (gl_v (i := 1) rfl (Or.inl (by kernel_rfl))) (go_e (ge_tup (ga_cons ge_int ga_nil)))) (ga_cons (ge_slice rfl (gl_v (i := 1) rfl (Or.inl (by kernel_rfl))) gp_no (gp_at (go_e (ge_un un_neg ok_neg (go_e ge_int))))) (ga_cons (ge_revA rfl (go_v (i := 1) rfl (Or.inl (by kernel_rfl)))) (ga_cons ge_non (ga_cons (ge_tup ga_nil) (ga_cons (ge_tup (ga_cons ge_str (ga_cons ge_int (ga_cons ge_int ga_nil)))) (ga_cons (ge_tup (ga_cons ge_str (ga_cons ge_int (ga_cons ge_int ga_nil)))) ga_nil)))))))))) (go_e (ge_callD (i := 0) (n := 1) ((g__law_take T).mono (by omega)) rfl (takes_of rfl rfl rfl rfl) hr (glk (by kernel_rfl)) rfl (Or.inl (by kernel_rfl)) (ga_cons ge_int ga_nil))) (fun _ _ => rfl))))
 gss_nil)
 (gss_cons (gs_if (gt_tru rfl (go_e (ge_isi .str rfl (glk (by kernel_rfl)) T.b_isinstance (glk (by kernel_rfl)) T.b_str PyProof.Rows.boot_str (go_v (i := 1) rfl (Or.inl (by kernel_rfl))))))
 (gss_one (gs_ret (ge_ix (ix_all (hu_of hr.r)) ok_ixAll (gl_e (ge_lst (ga_cons ge_str (ga_cons ge_str (ga_cons ge_str (ga_cons ge_str (ga_cons ge_non ga_nil))))))) (go_e (ge_callD (i := 0) (n := 1) ((g__law_take T).mono (by omega)) rfl (takes_of rfl rfl rfl rfl) hr (glk (by kernel_rfl)) rfl (Or.inl (by kernel_rfl)) (ga_cons ge_int ga_nil))) (fun _ _ => rfl))))
 gss_nil)
 (gss_one (gs_ret (ge_ix (ix_all (hu_of hr.r)) ok_ixAll (gl_e (ge_lst (ga_cons ge_int (ga_cons ge_int (ga_cons (ge_op op_addA ok_add (gl_v (i := 1) rfl (Or.inl (by kernel_rfl))) (go_e ge_int)) (ga_cons (ge_op op_sub ok_sub (gl_v (i := 1) rfl (Or.inl (by kernel_rfl))) (go_e ge_int)) (ga_cons ge_bl (ga_cons ge_non ga_nil)))))))) (go_e (ge_callD (i := 0) (n := 1) ((g__law_take T).mono (by omega)) rfl (takes_of rfl rfl rfl rfl) hr (glk (by kernel_rfl)) rfl (Or.inl (by kernel_rfl)) (ga_cons ge_int ga_nil))) (fun _ _ => rfl))))))))
def b_law : SF :=
 (sSeq (sFor (iR1 (xCons (xC (.int 3)) xNil)) (gV 2)
 (sSeq (sAsg (xOp fAdd (.ex (xC (.int 1))) (xO (xCallD 1 1 F__law_take (xCons (xC (.int 5)) xNil)))) (gV 3))
 (sSeq (sAsg (xCallD 1 2 (F__law_formula 30) (xCons (xV 3) (xCons (xC (.int 4)) xNil))) (gV 4))
 (sSeq (sAsg (xLst (xCons (xCall0 2 F__law_lamp_of (xCons (xV 4) (xCons (xV 3) xNil))) (xCons (xCall0 3 (F__law_count 30) (xCons (xV 4) (xCons (xV 3) (xCons (xC (.int 12)) xNil)))) (xCons (xCall0 1 (F__law_levels 30) (xCons (xV 4) xNil)) (xCons (xCall0 1 (F__law_plain 30) (xCons (xV 4) xNil)) (xCons (xC (.bool true)) xNil)))))) (gV 5))
 (sSeq (sIf (xTest (xOp fNe (.ex (xLk none (xLc (iR1 (xCons (xC (.int 5)) xNil)) (gV 12) tTrue (xOne fRepr (xO (xCall0 3 F__law_told (xCons (xV 12) (xCons (xV 3) (xCons (xV 4) xNil)))))) [12]))) (xO (xLk (some 5) (xLc (iN 5) (gV 13) tTrue (xOne fRepr (xB 13)) [13])))))
 (sRet (xC (.bool false)))
 sNil)
 (sFor (iA (xOp fAdd (.ex (xLk none (xLc (iR1 (xCons (xC (.int 6)) xNil)) (gV 10) tTrue (xCallD 1 1 (F__law_bent_formula 30) (xCons (xV 4) xNil)) [10]))) (xO (xLst (xCons (xC .none) (xCons (xTup xNil) (xCons (xC (.str "leaf")) (xCons (xTup (xCons (xC (.str "leaf")) (xCons (xV 3) (xCons (xC (.int 1)) xNil)))) (xCons (xTup (xCons (xC (.str "leaf")) (xCons (xC (.int 0)) xNil))) (xCons (xTup (xCons (xC (.str "and")) (xCons (xV 4) xNil))) (xCons (xLst (xCons (xV 4) xNil)) xNil))))))))))) (gV 6)
 (sSeq (sAsg (xOp fGt (.ex (xCall0 3 (F__law_count 30) (xCons (xV 6) (xCons (xV 3) (xCons (xC (.int 12)) xNil))))) (xO (xC (.int 0)))) (gV 7))
 (sSeq (sIf (tNotT (tTru (xO (xCall0 2 F__law_says (xCons (xCall0 2 F_is_formula (xCons (xV 3) (xCons (xV 6) xNil))) (xCons (xV 7) xNil))))))
 (sRet (xC (.bool false)))
 sNil)
 (sIf (tAndT (tNotT (tTru (xB 7))) (xTest (xOp fNe (.ex (xLk none (xLc (iR1 (xCons (xC (.int 4)) xNil)) (gV 12) tTrue (xCall0 3 F__law_told (xCons (xV 12) (xCons (xV 3) (xCons (xV 6) xNil)))) [12]))) (xO (xOp fMul (.ex (xLst (xCons (xC (.str "<malformed>")) xNil))) (xO (xC (.int 4))))))))
 (sRet (xC (.bool false)))
 sNil)))))))))
 (sSeq (sAsg (xTup (xCons (xTup (xCons (xC (.str "leaf")) (xCons (xC (.int 0)) (xCons (xC (.int 1)) xNil)))) (xCons (xTup (xCons (xC (.str "leaf")) (xCons (xC (.int 0)) (xCons (xC (.int 0)) xNil)))) xNil))) (gTp 2 (gsCons (gV 8) (gsCons (gV 9) gsNil))))
 (sSeq (sFor (iR1 (xCons (xC (.int 12)) xNil)) (gV 10)
 (sAsg (xTup (xCons (xC (.str "and")) (xCons (xV 8) (xCons (xTup (xCons (xC (.str "leaf")) (xCons (xC (.int 0)) (xCons (xC (.int 0)) xNil)))) xNil)))) (gV 8)))
 (sSeq (sFor (iR1 (xCons (xC (.int 6)) xNil)) (gV 10)
 (sAsg (xTup (xCons (xC (.str "or")) (xCons (xV 9) (xCons (xV 9) xNil)))) (gV 9)))
 (sSeq (sIf (tOrT (tNotT (tTru (xO (xCall0 2 F__law_says (xCons (xCall0 2 F_is_formula (xCons (xC (.int 1)) (xCons (xV 8) xNil))) (xCons (xC (.bool true)) xNil)))))) (tNotT (tTru (xO (xCall0 2 F__law_says (xCons (xCall0 2 F_is_formula (xCons (xC (.int 1)) (xCons (xTup (xCons (xC (.str "or")) (xCons (xV 8) (xCons (xV 8) xNil)))) xNil))) (xCons (xC (.bool false)) xNil)))))))
 (sRet (xC (.bool false)))
 sNil)
 (sSeq (sIf (tOrT (tNotT (tTru (xO (xCall0 2 F__law_says (xCons (xCall0 2 F_is_formula (xCons (xC (.int 1)) (xCons (xV 9) xNil))) (xCons (xC (.bool true)) xNil)))))) (tNotT (tTru (xO (xCall0 2 F__law_says (xCons (xCall0 2 F_is_formula (xCons (xC (.int 1)) (xCons (xTup (xCons (xC (.str "or")) (xCons (xV 9) (xCons (xTup (xCons (xC (.str "leaf")) (xCons (xC (.int 0)) (xCons (xC (.int 1)) xNil)))) xNil)))) xNil))) (xCons (xC (.bool false)) xNil)))))))
 (sRet (xC (.bool false)))
 sNil)
 (sSeq (sAsg (xOp fIxA (.ex (xLst (xCons (xC .none) (xCons (xC (.int 0)) (xCons (xC (.int 6)) (xCons (xC (.bool true)) (xCons (xC (.str "2")) xNil))))))) (xO (xCallD 1 1 F__law_take (xCons (xC (.int 5)) xNil)))) (gV 11))
 (sRet (xOp fEq (.ex (xLk none (xLc (iR1 (xCons (xC (.int 5)) xNil)) (gV 12) tTrue (xCall0 3 F__law_told (xCons (xV 12) (xCons (xV 11) (xCons (xTup (xCons (xC (.str "leaf")) (xCons (xC (.int 0)) (xCons (xC (.int 1)) xNil)))) xNil)))) [12]))) (xO (xOp fMul (.ex (xLst (xCons (xC (.str "<malformed>")) xNil))) (xO (xC (.int 5))))))))))))))
theorem r_law (T : Tx C mg) {f : Addr} {cdv : Value} {A : Around} {outer : List Env} {s : Shared} {H : Hp} {E : XK} (hr : Rm 36 (A.deeper (envOfC "law" (defScope s_law) s.heap.objs.size f cdv))) :
    GSs C (cxOf (L2.CX P w) P w C.K mg base ["script", "draw", "turn", "n", "formula", "dues", "value", "good", "deep", "wide", "k", "bad", "which", "due"] "law" (defScope s_law) f cdv A outer s H E) (fun cls d _ H => E cls d H) [] (defBody s_law).tail b_law := by
  have nd : (["script", "draw", "turn", "n", "formula", "dues", "value", "good", "deep", "wide", "k", "bad", "which", "due"] : List Str).Nodup := by decide
  exact (gss_cons (gs_for (passes_of rfl) rfl (gi_r1 (glk (by kernel_rfl)) T.b_range (ga_cons ge_int ga_nil)) (gg_v (i := 2) nd rfl (Or.inl (by kernel_rfl)) (by decide))
 (gss_cons (gs_asg (ge_op op_addA ok_add (gl_e ge_int) (go_e (ge_callD (i := 1) (n := 1) ((g__law_take T).mono (by omega)) rfl (takes_of rfl rfl rfl rfl) hr (glk (by kernel_rfl)) rfl (Or.inr (Or.inl (by kernel_rfl))) (ga_cons ge_int ga_nil)))) (gg_v (i := 3) nd rfl (Or.inr (by kernel_rfl)) (by decide)))
 (gss_cons (gs_asg (ge_callD (i := 1) (n := 2) ((g__law_formula T 30).mono (by omega)) rfl (takes_of rfl rfl rfl rfl) hr (glk (by kernel_rfl)) rfl (Or.inr (Or.inl (by kernel_rfl))) (ga_cons (ge_v (i := 3) rfl (Or.inr (Or.inl (by kernel_rfl)))) (ga_cons ge_int ga_nil))) (gg_v (i := 4) nd rfl (Or.inr (by kernel_rfl)) (by decide)))
 (gss_cons (gs_asg (ge_lst (ga_cons (ge_call0 (n := 2) ((g__law_lamp_of T).mono (by omega)) rfl (takes_of rfl rfl rfl rfl) hr (glk (by kernel_rfl)) (ga_cons (ge_v (i := 4) rfl (Or.inr (Or.inl (by kernel_rfl)))) (ga_cons (ge_v (i := 3) rfl (Or.inr (Or.inl (by kernel_rfl)))) ga_nil))) (ga_cons (ge_call0 (n := 3) ((g__law_count T 30).mono (by omega)) rfl (takes_of rfl rfl rfl rfl) hr (glk (by kernel_rfl)) (ga_cons (ge_v (i := 4) rfl (Or.inr (Or.inl (by kernel_rfl)))) (ga_cons (ge_v (i := 3) rfl (Or.inr (Or.inl (by kernel_rfl)))) (ga_cons ge_int ga_nil)))) (ga_cons (ge_call0 (n := 1) ((g__law_levels T 30).mono (by omega)) rfl (takes_of rfl rfl rfl rfl) hr (glk (by kernel_rfl)) (ga_cons (ge_v (i := 4) rfl (Or.inr (Or.inl (by kernel_rfl)))) ga_nil)) (ga_cons (ge_call0 (n := 1) ((g__law_plain T 30).mono (by omega)) rfl (takes_of rfl rfl rfl rfl) hr (glk (by kernel_rfl)) (ga_cons (ge_v (i := 4) rfl (Or.inr (Or.inl (by kernel_rfl)))) ga_nil)) (ga_cons ge_bl ga_nil)))))) (gg_v (i := 5) nd rfl (Or.inl (by kernel_rfl)) (by decide)))
 (gss_cons (gs_if (gt_cmp (op_neD (hu64 hr)) ok_ne (gl_e (ge_lc (own := [("which", 12)]) none rfl nd (gi_r1 (glk (by kernel_rfl)) T.b_range (ga_cons ge_int ga_nil)) (blkOk_by (by kernel_rfl)) (fun _ _ _ _ _ => (gg_v (i := 12) nd rfl (Or.inl (by kernel_rfl)) (oth_not (by decide)))) (fun _ _ _ _ _ => gts_nil) (fun _ _ _ _ _ => (ge_b1 (cr_repr hr) ok_repr PyProof.Rows.boot_repr (glk (by kernel_rfl)) T.b_repr (go_e (ge_call0 (n := 3) ((g__law_told T).mono (by omega)) rfl takes0 hr (glk (by kernel_rfl)) (ga_cons (ge_v (i := 12) rfl (Or.inl (by kernel_rfl))) (ga_cons (ge_v (i := 3) rfl (Or.inr (Or.inl (by kernel_rfl)))) (ga_cons (ge_v (i := 4) rfl (Or.inr (Or.inl (by kernel_rfl)))) ga_nil))))))))) (go_e (ge_lc (own := [("due", 13)]) (some 5) rfl nd (gi_n (i := 5) rfl rfl (Or.inl (by kernel_rfl))) (blkOk_by (by kernel_rfl)) (fun _ _ _ _ _ => (gg_v (i := 13) nd rfl (Or.inl (by kernel_rfl)) (oth_not (by decide)))) (fun _ _ _ _ _ => gts_nil) (fun _ _ _ _ _ => (ge_b1 (cr_repr hr) ok_repr PyProof.Rows.boot_repr (glk (by kernel_rfl)) T.b_repr (go_v (i := 13) rfl (Or.inl (by kernel_rfl))))))) (nomark _))
 (gss_one (gs_ret ge_bl))
 gss_nil)
 (gss_one (gs_for (passes_of rfl) rfl (gi_a rfl (ge_op op_addA ok_add (gl_e (ge_lc (own := [("k", 10)]) none rfl nd (gi_r1 (glk (by kernel_rfl)) T.b_range (ga_cons ge_int ga_nil)) (blkOk_by (by kernel_rfl)) (fun _ _ _ _ _ => (gg_v (i := 10) nd rfl (Or.inl (by kernel_rfl)) (oth_not (by decide)))) (fun _ _ _ _ _ => gts_nil) (fun _ _ _ _ _ => (ge_callD (i := 1) (n := 1) ((g__law_bent_formula T 30).mono (by omega)) rfl takes0 hr (glk (by kernel_rfl)) rfl (Or.inr (Or.inl (by kernel_rfl))) (ga_cons (ge_v (i := 4) rfl (Or.inr (Or.inl (by kernel_rfl)))) ga_nil))))) (go_e (ge_lst (ga_cons ge_non (ga_cons (ge_tup ga_nil) (ga_cons ge_str (ga_cons (ge_tup (ga_cons ge_str (ga_cons (ge_v (i := 3) rfl (Or.inr (Or.inl (by kernel_rfl)))) (ga_cons ge_int ga_nil)))) (ga_cons (ge_tup (ga_cons ge_str (ga_cons ge_int ga_nil))) (ga_cons (ge_tup (ga_cons ge_str (ga_cons (ge_v (i := 4) rfl (Or.inr (Or.inl (by kernel_rfl)))) ga_nil))) (ga_cons (ge_lst (ga_cons (ge_v (i := 4) rfl (Or.inr (Or.inl (by kernel_rfl)))) ga_nil)) ga_nil))))))))))) (gg_v (i := 6) nd rfl (Or.inr (by kernel_rfl)) (by decide))
 (gss_cons (gs_asg (ge_cmp op_gt okB (gl_e (ge_call0 (n := 3) ((g__law_count T 30).mono (by omega)) rfl (takes_of rfl rfl rfl rfl) hr (glk (by kernel_rfl)) (ga_cons (ge_v (i := 6) rfl (Or.inr (Or.inl (by kernel_rfl)))) (ga_cons (ge_v (i := 3) rfl (Or.inr (Or.inl (by kernel_rfl)))) (ga_cons ge_int ga_nil))))) (go_e ge_int) (nomark _)) (gg_v (i := 7) nd rfl (Or.inl (by kernel_rfl)) (by decide)))
 (gss_cons (gs_if (gt_not (gt_tru rfl (go_e (ge_call0 (n := 2) ((g__law_says T).mono (by omega)) rfl (takes_of rfl rfl rfl rfl) hr (glk (by kernel_rfl)) (ga_cons (ge_call0 (n := 2) ((g_is_formula T).mono (by omega)) rfl (takes_of rfl rfl rfl rfl) hr (glk (by kernel_rfl)) (ga_cons (ge_v (i := 3) rfl (Or.inr (Or.inl (by kernel_rfl)))) (ga_cons (ge_v (i := 6) rfl (Or.inr (Or.inl (by kernel_rfl)))) ga_nil))) (ga_cons (ge_v (i := 7) rfl (Or.inl (by kernel_rfl))) ga_nil))))))
 (gss_one (gs_ret ge_bl))
 gss_nil)
 (gss_one (gs_if (gt_w (gw_and (gt_not (gt_tru rfl (go_v (i := 7) rfl (Or.inl (by kernel_rfl))))) (gw_and1 (gt_cmp (op_neD (hu64 hr)) ok_ne (gl_e (ge_lc (own := [("which", 12)]) none rfl nd (gi_r1 (glk (by kernel_rfl)) T.b_range (ga_cons ge_int ga_nil)) (blkOk_by (by kernel_rfl)) (fun _ _ _ _ _ => (gg_v (i := 12) nd rfl (Or.inl (by kernel_rfl)) (oth_not (by decide)))) (fun _ _ _ _ _ => gts_nil) (fun _ _ _ _ _ => (ge_call0 (n := 3) ((g__law_told T).mono (by omega)) rfl takes0 hr (glk (by kernel_rfl)) (ga_cons (ge_v (i := 12) rfl (Or.inl (by kernel_rfl))) (ga_cons (ge_v (i := 3) rfl (Or.inr (Or.inl (by kernel_rfl)))) (ga_cons (ge_v (i := 6) rfl (Or.inr (Or.inl (by kernel_rfl)))) ga_nil))))))) (go_e (ge_op op_mulA ok_mul (gl_e (ge_lst (ga_cons ge_str ga_nil))) (go_e ge_int))) (nomark _)))))
 (gss_one (gs_ret ge_bl))
 gss_nil)))))))))))
 (gss_cons (gs_asg (ge_tup (ga_cons (ge_tup (ga_cons ge_str (ga_cons ge_int (ga_cons ge_int ga_nil)))) (ga_cons (ge_tup (ga_cons ge_str (ga_cons ge_int (ga_cons ge_int ga_nil)))) ga_nil))) (gg_tup rfl rfl (ggs_cons (gg_v (i := 8) nd rfl (Or.inl (by kernel_rfl)) (by decide)) (ggs_cons (gg_v (i := 9) nd rfl (Or.inl (by kernel_rfl)) (by decide)) ggs_nil))))
 (gss_cons (gs_for (passes_of rfl) rfl (gi_r1 (glk (by kernel_rfl)) T.b_range (ga_cons ge_int ga_nil)) (gg_v (i := 10) nd rfl (Or.inl (by kernel_rfl)) (by decide))
 (gss_one (gs_asg (ge_tup (ga_cons ge_str (ga_cons (ge_v (i := 8) rfl (Or.inl (by kernel_rfl))) (ga_cons (ge_tup (ga_cons ge_str (ga_cons ge_int (ga_cons ge_int ga_nil)))) ga_nil)))) (gg_v (i := 8) nd rfl (Or.inl (by kernel_rfl)) (by decide)))))
 (gss_cons (gs_for (passes_of rfl) rfl (gi_r1 (glk (by kernel_rfl)) T.b_range (ga_cons ge_int ga_nil)) (gg_v (i := 10) nd rfl (Or.inl (by kernel_rfl)) (by decide))
 (gss_one (gs_asg (ge_tup (ga_cons ge_str (ga_cons (ge_v (i := 9) rfl (Or.inl (by kernel_rfl))) (ga_cons (ge_v (i := 9) rfl (Or.inl (by kernel_rfl))) ga_nil)))) (gg_v (i := 9) nd rfl (Or.inl (by kernel_rfl)) (by decide)))))
 (gss_cons (gs_if (gt_w (gw_or (gt_not (gt_tru rfl (go_e (ge_call0 (n := 2) ((g__law_says T).mono (by omega)) rfl (takes_of rfl rfl rfl rfl) hr (glk (by kernel_rfl)) (ga_cons (ge_call0 (n := 2) ((g_is_formula T).mono (by omega)) rfl (takes_of rfl rfl rfl rfl) hr (glk (by kernel_rfl)) (ga_cons ge_int (ga_cons (ge_v (i := 8) rfl (Or.inl (by kernel_rfl))) ga_nil))) (ga_cons ge_bl ga_nil)))))) (gw_or1 (gt_not (gt_tru rfl (go_e (ge_call0 (n := 2) ((g__law_says T).mono (by omega)) rfl (takes_of rfl rfl rfl rfl) hr (glk (by kernel_rfl)) (ga_cons (ge_call0 (n := 2) ((g_is_formula T).mono (by omega)) rfl (takes_of rfl rfl rfl rfl) hr (glk (by kernel_rfl)) (ga_cons ge_int (ga_cons (ge_tup (ga_cons ge_str (ga_cons (ge_v (i := 8) rfl (Or.inl (by kernel_rfl))) (ga_cons (ge_v (i := 8) rfl (Or.inl (by kernel_rfl))) ga_nil)))) ga_nil))) (ga_cons ge_bl ga_nil)))))))))
 (gss_one (gs_ret ge_bl))
 gss_nil)
 (gss_cons (gs_if (gt_w (gw_or (gt_not (gt_tru rfl (go_e (ge_call0 (n := 2) ((g__law_says T).mono (by omega)) rfl (takes_of rfl rfl rfl rfl) hr (glk (by kernel_rfl)) (ga_cons (ge_call0 (n := 2) ((g_is_formula T).mono (by omega)) rfl (takes_of rfl rfl rfl rfl) hr (glk (by kernel_rfl)) (ga_cons ge_int (ga_cons (ge_v (i := 9) rfl (Or.inl (by kernel_rfl))) ga_nil))) (ga_cons ge_bl ga_nil)))))) (gw_or1 (gt_not (gt_tru rfl (go_e (ge_call0 (n := 2) ((g__law_says T).mono (by omega)) rfl (takes_of rfl rfl rfl rfl) hr (glk (by kernel_rfl)) (ga_cons (ge_call0 (n := 2) ((g_is_formula T).mono (by omega)) rfl (takes_of rfl rfl rfl rfl) hr (glk (by kernel_rfl)) (ga_cons ge_int (ga_cons (ge_tup (ga_cons ge_str (ga_cons (ge_v (i := 9) rfl (Or.inl (by kernel_rfl))) (ga_cons (ge_tup (ga_cons ge_str (ga_cons ge_int (ga_cons ge_int ga_nil)))) ga_nil)))) ga_nil))) (ga_cons ge_bl ga_nil)))))))))
 (gss_one (gs_ret ge_bl))
 gss_nil)
 (gss_cons (gs_asg (ge_ix (ix_all (hu_of hr.r)) ok_ixAll (gl_e (ge_lst (ga_cons ge_non (ga_cons ge_int (ga_cons ge_int (ga_cons ge_bl (ga_cons ge_str ga_nil))))))) (go_e (ge_callD (i := 1) (n := 1) ((g__law_take T).mono (by omega)) rfl (takes_of rfl rfl rfl rfl) hr (glk (by kernel_rfl)) rfl (Or.inr (Or.inl (by kernel_rfl))) (ga_cons ge_int ga_nil))) (fun _ _ => rfl)) (gg_v (i := 11) nd rfl (Or.inr (by kernel_rfl)) (by decide)))
 (gss_one (gs_ret (ge_cmp (op_eqD (hu64 hr)) ok_eq (gl_e (ge_lc (own := [("which", 12)]) none rfl nd (gi_r1 (glk (by kernel_rfl)) T.b_range (ga_cons ge_int ga_nil)) (blkOk_by (by kernel_rfl)) (fun _ _ _ _ _ => (gg_v (i := 12) nd rfl (Or.inl (by kernel_rfl)) (oth_not (by decide)))) (fun _ _ _ _ _ => gts_nil) (fun _ _ _ _ _ => (ge_call0 (n := 3) ((g__law_told T).mono (by omega)) rfl takes0 hr (glk (by kernel_rfl)) (ga_cons (ge_v (i := 12) rfl (Or.inl (by kernel_rfl))) (ga_cons (ge_v (i := 11) rfl (Or.inr (Or.inl (by kernel_rfl)))) (ga_cons (ge_tup (ga_cons ge_str (ga_cons ge_int (ga_cons ge_int ga_nil)))) ga_nil))))))) (go_e (ge_op op_mulA ok_mul (gl_e (ge_lst (ga_cons ge_str ga_nil))) (go_e ge_int))) (nomark _)))))))))))
theorem take_ok {cs : List Int} {a c s m : Int} (h : Dr cs a c s) (hm : 0 < m) (hm2 : m < 1000000) : ∃ (f a' c' s' : Int), Dr cs a' c' s' ∧ 0 ≤ f ∧ f < m ∧ F__law_take [.ow true (drD cs a c s), .sh (.int m)] = .ok ⟨.int f, false⟩ [.ow true (drD cs a' c' s'), .sh (.int m)] := by
  have hlog : m.natAbs.log2 < 9000 := Nat.lt_of_lt_of_le (log2_le (k := 20) (by omega) (by decide)) (by decide)
  have fin : ∀ c a s, 0 ≤ c → Dr cs a c s → 0 ≤ c % m ∧ c % m < m ∧ Dr cs a (c / m) s := fun c a s hc h => ⟨Int.emod_nonneg _ (by omega), Int.emod_lt_of_pos _ hm, ⟨h.pos, h.len, h.at_, Int.ediv_nonneg hc (by omega), h.s0, h.s1⟩⟩
  by_cases h0 : c = 0
  · subst h0
    have hseed : cMul s 48271 = true := by
      have h1 : s.natAbs.log2 < 41 := log2_le (k := 41) (by have := h.s0; have := h.s1; omega) (by decide)
      have h2 : (48271 : Int).natAbs.log2 < 41 := by decide
      simp only [cMul, decide_eq_true_eq]
      omega
    have hs : ∀ a, Dr cs a 0 s → Dr cs a ((s * 48271 + 11) % 2147483647) ((s * 48271 + 11) % 2147483647) := fun a h => ⟨h.pos, h.len, h.at_, Int.emod_nonneg _ (by decide), Int.emod_nonneg _ (by decide), Int.emod_lt_of_pos _ (by decide)⟩
    have ha : Dr cs (a + 1) 0 s := ⟨h.pos, h.len, by have := h.at_; omega, by decide, h.s0, h.s1⟩
    by_cases hl : a + 1 < (cs.length : Int)
    · have hj : (a + 1).toNat < cs.length := by have := h.at_; omega
      have e1 : a + 1 = (((a + 1).toNat : Nat) : Int) := by have := h.at_; omega
      have hv : (cs.map PyData.int)[(a + 1).toNat]? = some (.int cs[(a + 1).toNat]) := by rw [List.getElem?_map, List.getElem?_eq_getElem hj]; rfl
      have hix : fIxA (.list (cs.map PyData.int)) (.int (a + 1)) = some ⟨.int cs[(a + 1).toNat], false⟩ := by
        have z := ix_at hv
        rwa [← e1] at z
      have hp := h.pos _ (List.getElem_mem hj)
      generalize hvv : cs[(a + 1).toNat] = v at hix hp
      by_cases hz : v = 0
      · subst hz
        obtain ⟨q1, q2, q3⟩ := fin _ _ _ (hs _ ha).cur (hs _ ha)
        refine ⟨_, _, _, _, q3, q1, q2, ?_⟩
        unfold F__law_take fnD b__law_take drD
        simp [sSeq, sIf, xTest, xOp, xTwo, xB, xO, xC, ix0, ix1, ix2, ix3, fEq_int, sNil, sAsg, gV, slOf, xOne, fInt, fMod, fII, cMod, hm, sSetI, ownL, fDiv, cDiv, hlog, sRetV, backP, fAdd, fLt, fIB, fLen, hl, hix, ixN, fMul, hseed]
      · have hv' : Dr cs (a + 1) v s := ⟨h.pos, h.len, ha.at_, hp, h.s0, h.s1⟩
        obtain ⟨q1, q2, q3⟩ := fin _ _ _ hp hv'
        refine ⟨_, _, _, _, q3, q1, q2, ?_⟩
        unfold F__law_take fnD b__law_take drD
        simp [sSeq, sIf, xTest, xOp, xTwo, xB, xO, xC, ix0, ix1, ix2, ix3, fEq_int, sNil, sAsg, gV, slOf, xOne, fInt, fMod, fII, cMod, hm, sSetI, ownL, fDiv, cDiv, hlog, sRetV, backP, fAdd, fLt, fIB, fLen, hl, hix, ixN, fMul, hz]
    · obtain ⟨q1, q2, q3⟩ := fin _ _ _ (hs _ ha).cur (hs _ ha)
      refine ⟨_, _, _, _, q3, q1, q2, ?_⟩
      unfold F__law_take fnD b__law_take drD
      simp [sSeq, sIf, xTest, xOp, xTwo, xB, xO, xC, ix0, ix1, ix2, ix3, fEq_int, sNil, sAsg, gV, slOf, xOne, fInt, fMod, fII, cMod, hm, sSetI, ownL, fDiv, cDiv, hlog, sRetV, backP, fAdd, fLt, fIB, fLen, hl, ixN, fMul, hseed]
  · obtain ⟨q1, q2, q3⟩ := fin _ _ _ h.cur h
    refine ⟨_, _, _, _, q3, q1, q2, ?_⟩
    unfold F__law_take fnD b__law_take drD
    simp [sSeq, sIf, xTest, xOp, xTwo, xB, xO, xC, ix0, ix1, ix2, ix3, fEq_int, h0, sNil, sAsg, gV, slOf, xOne, fInt, fMod, fII, cMod, hm, sSetI, ownL, fDiv, cDiv, hlog, sRetV, backP, ixN]

/-! ### data that may be looked at: the texts are short, the depth small -/
def okD (d : D) : Prop := SeqAt.shaped d = true
theorem fEq_str {x y : Str} (hx : PyData.strOk x = true) (hy : PyData.strOk y = true) : fEq (.str x) (.str y) = sb (decide (x = y)) := by
  have h1 : ∀ {z : Str}, PyData.strOk z = true → SeqAt.shaped (.str z) = true := fun {z} h => by simp [most, sSeq, sIf, xTest, xOp, xTwo, xO, xC, sNil, sAsg, gV, slOf, xOne, sRet, sRetV, xTup, xLst, xNil, xCons, tOrT, tNotT, tAndT, tTru, xIf, xAnd, xNot, fnD, backP, xCall0, sb, si, SeqAt.shaped, PyData.canLay0, PyData.depth, h]
  unfold fEq
  rw [h1 hx, h1 hy]
  simp [most, sSeq, sIf, xTest, xOp, xTwo, xO, xC, sNil, sAsg, gV, slOf, xOne, sRet, sRetV, xTup, xLst, xNil, xCons, tOrT, tNotT, tAndT, tTru, xIf, xAnd, xNot, fnD, backP, xCall0, sb, si, PyData.eqv]
  rfl
theorem fNe_int {i j : Int} : fNe (.int i) (.int j) = sb (!decide (i = j)) := by
  have h : ∀ i : Int, SeqAt.shaped (.int i) = true := fun i => by simp [most, sSeq, sIf, xTest, xOp, xTwo, xO, xC, sNil, sAsg, gV, slOf, xOne, sRet, sRetV, xTup, xLst, xNil, xCons, tOrT, tNotT, tAndT, tTru, xIf, xAnd, xNot, fnD, backP, xCall0, sb, si, SeqAt.shaped, PyData.canLay0, PyData.depth]
  unfold fNe
  rw [h, h]
  simp [most, sSeq, sIf, xTest, xOp, xTwo, xO, xC, sNil, sAsg, gV, slOf, xOne, sRet, sRetV, xTup, xLst, xNil, xCons, tOrT, tNotT, tAndT, tTru, xIf, xAnd, xNot, fnD, backP, xCall0, sb, si, PyData.eqv]
  rfl
theorem ok_str {x : Str} (h : okD (.str x)) : PyData.strOk x = true := by
  simpa [okD, SeqAt.shaped, PyData.canLay0, PyData.depth] using h
theorem okD_iff {d : D} : okD d ↔ d.canLay0 = true ∧ d.depth ≤ 64 := by
  unfold okD SeqAt.shaped
  rw [Bool.and_eq_true, decide_eq_true_eq]
theorem okD_tup {ds : List D} (h : okD (.tuple ds)) : ∀ d ∈ ds, okD d := by
  obtain ⟨h1, h2⟩ := okD_iff.mp h
  have h1 : PyData.canLayAll0 ds = true := by simpa [PyData.canLay0] using h1
  have h2 : PyData.depthAll ds + 1 ≤ 64 := by simpa only [PyData.depth] using h2
  have key : ∀ (ds : List D) (k : Nat), PyData.canLayAll0 ds = true → PyData.depthAll ds ≤ k → ∀ d ∈ ds, d.canLay0 = true ∧ d.depth ≤ k := by
    intro ds k
    induction ds with
    | nil => intro _ _ d m; cases m
    | cons a ds ih =>
      intro c e d m
      simp only [PyData.canLayAll0, Bool.and_eq_true, PyData.depthAll] at c e
      rcases List.mem_cons.mp m with rfl | m
      · exact ⟨c.1, by omega⟩
      · exact ih c.2 (by omega) d m
  intro d m
  have := key ds 63 h1 (by omega) d m
  exact okD_iff.mpr ⟨this.1, by omega⟩
/-- a whole number, not a bool -/
def isW : D → Bool | .int _ => true | _ => false
theorem whole_ok (d : D) : F_is_whole [.sh d] = .ok ⟨.bool (isW d), false⟩ [.sh d] := by
  cases d <;> rfl
def leafOk (a b : D) (n : Int) : Bool := match a, b with
  | .int i, .int j => decide (0 ≤ i) && decide (i < n) && decide (0 ≤ j) && decide (j ≤ 1)
  | _, _ => false
theorem leaf_ok (x a b : D) (n : Int) : F_is_leaf [.sh (.tuple [x, a, b]), .sh (.int n)] = .ok ⟨.bool (leafOk a b n), false⟩ [.sh (.tuple [x, a, b]), .sh (.int n)] := by
  have i1 : fIxA (.tuple [x, a, b]) (.int 1) = some ⟨a, false⟩ := rfl
  have i2 : fIxA (.tuple [x, a, b]) (.int 2) = some ⟨b, false⟩ := rfl
  unfold F_is_leaf b_is_leaf
  cases ha : isW a with
  | false =>
    have : leafOk a b n = false := by cases a <;> first | rfl | cases ha
    simp [most, sSeq, sIf, xTest, xOp, xTwo, xO, xC, sNil, sAsg, gV, slOf, xOne, sRet, sRetV, xTup, xLst, xNil, xCons, tOrT, tNotT, tAndT, tTru, xIf, xAnd, xNot, fnD, backP, xCall0, sb, si, xV, xB, fLen, fNe_int, i1, i2, whole_ok, ha, truD, this]
  | true =>
    cases hb : isW b with
    | false =>
      have : leafOk a b n = false := by cases a <;> cases b <;> first | rfl | cases hb | cases ha
      simp [most, sSeq, sIf, xTest, xOp, xTwo, xO, xC, sNil, sAsg, gV, slOf, xOne, sRet, sRetV, xTup, xLst, xNil, xCons, tOrT, tNotT, tAndT, tTru, xIf, xAnd, xNot, fnD, backP, xCall0, sb, si, xV, xB, fLen, fNe_int, i1, i2, whole_ok, ha, hb, truD, this]
    | true =>
      cases a <;> try (cases ha; done)
      cases b <;> try (cases hb; done)
      rename_i i j
      by_cases h0 : 0 ≤ i
      · by_cases h1 : i < n
        · by_cases h2 : 0 ≤ j
          · simp [most, sSeq, sIf, xTest, xOp, xTwo, xO, xC, sNil, sAsg, gV, slOf, xOne, sRet, sRetV, xTup, xLst, xNil, xCons, tOrT, tNotT, tAndT, tTru, xIf, xAnd, xNot, fnD, backP, xCall0, sb, si, xV, xB, fLen, fNe_int, i1, i2, whole_ok, isW, truD, leafOk, xChn, fLe, fLt, fIB, h0, h1, h2]
          · simp [most, sSeq, sIf, xTest, xOp, xTwo, xO, xC, sNil, sAsg, gV, slOf, xOne, sRet, sRetV, xTup, xLst, xNil, xCons, tOrT, tNotT, tAndT, tTru, xIf, xAnd, xNot, fnD, backP, xCall0, sb, si, xV, xB, fLen, fNe_int, i1, i2, whole_ok, isW, truD, leafOk, xChn, fLe, fLt, fIB, h0, h1, h2]
        · simp [most, sSeq, sIf, xTest, xOp, xTwo, xO, xC, sNil, sAsg, gV, slOf, xOne, sRet, sRetV, xTup, xLst, xNil, xCons, tOrT, tNotT, tAndT, tTru, xIf, xAnd, xNot, fnD, backP, xCall0, sb, si, xV, xB, fLen, fNe_int, i1, i2, whole_ok, isW, truD, leafOk, xChn, fLe, fLt, fIB, h0, h1]
      · simp [most, sSeq, sIf, xTest, xOp, xTwo, xO, xC, sNil, sAsg, gV, slOf, xOne, sRet, sRetV, xTup, xLst, xNil, xCons, tOrT, tNotT, tAndT, tTru, xIf, xAnd, xNot, fnD, backP, xCall0, sb, si, xV, xB, fLen, fNe_int, i1, i2, whole_ok, isW, truD, leafOk, xChn, fLe, fLt, fIB, h0]
def cnt1 (r : D → Option Int) (v : D) (n : Int) : Option Int := match v with
  | .tuple [.str s, a, b] => if s = "leaf" then (if leafOk a b n then some 1 else none) else if s = "and" ∨ s = "or" then (r a).bind fun x => if 64 < x then none else (r b).bind fun y => if 64 < x + y then none else some (x + y) else none
  | _ => none
def cnt : Nat → D → Int → Option Int
  | 0, v, n => cnt1 (fun _ => none) v n
  | L + 1, v, n => cnt1 (fun d => cnt L d n) v n
def optI : Option Int → D | none => .none | some x => .int x
theorem in2 {s x y : Str} {neg : Bool} : fInA neg (.str s) (.tuple [.str x, .str y]) = sb (if neg then !(decide (x = s) || decide (y = s)) else (decide (x = s) || decide (y = s))) := by
  simp [most, sSeq, sIf, xTest, xOp, xTwo, xO, xC, sNil, sAsg, gV, slOf, xOne, sRet, sRetV, xTup, xLst, xNil, xCons, tOrT, tNotT, tAndT, tTru, xIf, xAnd, xNot, fnD, backP, xCall0, sb, si, fInA, fIn, flatD, inD, PyData.eqv]
  rfl
theorem in2L {s x y : Str} {neg : Bool} : fInA neg (.str s) (.list [.str x, .str y]) = sb (if neg then !(decide (x = s) || decide (y = s)) else (decide (x = s) || decide (y = s))) := by
  simp [most, sSeq, sIf, xTest, xOp, xTwo, xO, xC, sNil, sAsg, gV, slOf, xOne, sRet, sRetV, xTup, xLst, xNil, xCons, tOrT, tNotT, tAndT, tTru, xIf, xAnd, xNot, fnD, backP, xCall0, sb, si, fInA, fIn, flatD, inD, PyData.eqv]
  rfl
theorem ok_leafw : PyData.strOk "leaf" = true := by decide +kernel
/-- what is not a row of a text and two more -/
def tri : D → Option (Str × D × D)
  | .tuple [.str s, a, b] => some (s, a, b)
  | _ => none
theorem count_no (φ : XF) (v : D) (n L : Int) (h : tri v = none) : b_count_leaves φ [.sh v, .sh (.int n), .sh (.int L), .un, .un, .un] = .ok (.rt ⟨.none, false⟩) [.sh v, .sh (.int n), .sh (.int L), .un, .un, .un] := by
  unfold b_count_leaves
  cases v with
  | tuple ds =>
    match ds, h with
    | [], _ => simp [most, sSeq, sIf, xTest, xOp, xTwo, xO, xC, sNil, sAsg, gV, slOf, xOne, sRet, sRetV, xTup, xLst, xNil, xCons, tOrT, tNotT, tAndT, tTru, xIf, xAnd, xNot, fnD, backP, xCall0, sb, si, xV, xB, fIs, isT, truD, fLen, fNe_int]
    | [x], _ => simp [most, sSeq, sIf, xTest, xOp, xTwo, xO, xC, sNil, sAsg, gV, slOf, xOne, sRet, sRetV, xTup, xLst, xNil, xCons, tOrT, tNotT, tAndT, tTru, xIf, xAnd, xNot, fnD, backP, xCall0, sb, si, xV, xB, fIs, isT, truD, fLen, fNe_int]
    | [x, a], _ => simp [most, sSeq, sIf, xTest, xOp, xTwo, xO, xC, sNil, sAsg, gV, slOf, xOne, sRet, sRetV, xTup, xLst, xNil, xCons, tOrT, tNotT, tAndT, tTru, xIf, xAnd, xNot, fnD, backP, xCall0, sb, si, xV, xB, fIs, isT, truD, fLen, fNe_int]
    | [x, a, b], h =>
      have i0 : fIxA (.tuple [x, a, b]) (.int 0) = some ⟨x, false⟩ := rfl
      have hx : isT .str x = false := by cases x <;> first | rfl | cases h
      have ht : isT .tuple (.tuple [x, a, b]) = true := rfl
      simp [most, sSeq, sIf, xTest, xOp, xTwo, xO, xC, sNil, sAsg, gV, slOf, xOne, sRet, sRetV, xTup, xLst, xNil, xCons, tOrT, tNotT, tAndT, tTru, xIf, xAnd, xNot, fnD, backP, xCall0, sb, si, xV, xB, fIs, ht, truD, fLen, fNe_int, i0, hx]
    | x :: a :: b :: c :: ds, _ =>
      have : ¬ (((ds.length : Int) + 1 + 1 + 1 + 1) = 3) := by omega
      simp [most, sSeq, sIf, xTest, xOp, xTwo, xO, xC, sNil, sAsg, gV, slOf, xOne, sRet, sRetV, xTup, xLst, xNil, xCons, tOrT, tNotT, tAndT, tTru, xIf, xAnd, xNot, fnD, backP, xCall0, sb, si, xV, xB, fIs, isT, truD, fLen, fNe_int, this]
  | _ => simp [most, sSeq, sIf, xTest, xOp, xTwo, xO, xC, sNil, sAsg, gV, slOf, xOne, sRet, sRetV, xTup, xLst, xNil, xCons, tOrT, tNotT, tAndT, tTru, xIf, xAnd, xNot, fnD, backP, xCall0, sb, si, xV, xB, fIs, isT, truD]
theorem count_leaf (φ : XF) (a b : D) (n L : Int) : b_count_leaves φ [.sh (.tuple [.str "leaf", a, b]), .sh (.int n), .sh (.int L), .un, .un, .un] = .ok (.rt ⟨optI (if leafOk a b n then some 1 else none), false⟩) [.sh (.tuple [.str "leaf", a, b]), .sh (.int n), .sh (.int L), .un, .un, .un] := by
  unfold b_count_leaves
  have i0 : fIxA (.tuple [.str "leaf", a, b]) (.int 0) = some ⟨.str "leaf", false⟩ := rfl
  have i1 : fEq (.str "leaf") (.str "leaf") = sb true := by rw [fEq_str ok_leafw ok_leafw]; simp
  have ht : isT .tuple (.tuple [.str "leaf", a, b]) = true := rfl
  have hs : isT .str (.str "leaf") = true := rfl
  have hl := leaf_ok (.str "leaf") a b n
  cases hc : leafOk a b n with
  | true =>
    rw [hc] at hl
    simp [most, sSeq, sIf, xTest, xOp, xTwo, xO, xC, sNil, sAsg, gV, slOf, xOne, sRet, sRetV, xTup, xLst, xNil, xCons, tOrT, tNotT, tAndT, tTru, xIf, xAnd, xNot, fnD, backP, xCall0, sb, si, xV, xB, fIs, ht, hs, truD, fLen, fNe_int, i0, i1, hl, optI]
  | false =>
    rw [hc] at hl
    simp [most, sSeq, sIf, xTest, xOp, xTwo, xO, xC, sNil, sAsg, gV, slOf, xOne, sRet, sRetV, xTup, xLst, xNil, xCons, tOrT, tNotT, tAndT, tTru, xIf, xAnd, xNot, fnD, backP, xCall0, sb, si, xV, xB, fIs, ht, hs, truD, fLen, fNe_int, i0, i1, hl, optI]
/-- and, or, other texts -/
theorem count_nd (φ : XF) (s : Str) (a b : D) (n : Int) (L : Nat) (r : D → Option Int) (hs : PyData.strOk s = true) (h1 : s ≠ "leaf")
    (ha : s = "and" ∨ s = "or" → 0 < L → φ [.sh a, .sh (.int n), .sh (.int ((L : Int) - 1))] = .ok ⟨optI (r a), false⟩ [.sh a, .sh (.int n), .sh (.int ((L : Int) - 1))])
    (hb : s = "and" ∨ s = "or" → 0 < L → φ [.sh b, .sh (.int n), .sh (.int ((L : Int) - 1))] = .ok ⟨optI (r b), false⟩ [.sh b, .sh (.int n), .sh (.int ((L : Int) - 1))]) :
    ∃ e, b_count_leaves φ [.sh (.tuple [.str s, a, b]), .sh (.int n), .sh (.int L), .un, .un, .un] = .ok (.rt ⟨optI (cnt1 (if L = 0 then fun _ => none else r) (.tuple [.str s, a, b]) n), false⟩) (.sh (.tuple [.str s, a, b]) :: .sh (.int n) :: .sh (.int L) :: e) ∧ e.length = 3 := by
  unfold b_count_leaves
  have i0 : fIxA (.tuple [.str s, a, b]) (.int 0) = some ⟨.str s, false⟩ := rfl
  have i1 : fEq (.str s) (.str "leaf") = sb false := by rw [fEq_str hs ok_leafw]; simp [most, sSeq, sIf, xTest, xOp, xTwo, xO, xC, sNil, sAsg, gV, slOf, xOne, sRet, sRetV, xTup, xLst, xNil, xCons, tOrT, tNotT, tAndT, tTru, xIf, xAnd, xNot, fnD, backP, xCall0, sb, si, h1]
  have ht : isT .tuple (.tuple [.str s, a, b]) = true := rfl
  have hst : isT .str (.str s) = true := rfl
  by_cases hw : s = "and" ∨ s = "or"
  · have i2 : fInA true (.str s) (.tuple [.str "and", .str "or"]) = sb false := by
      rw [in2]; rcases hw with rfl | rfl <;> simp
    by_cases hL : L = 0
    · subst hL
      refine ⟨[.un, .un, .un], ?_, rfl⟩
      simp [most, sSeq, sIf, xTest, xOp, xTwo, xO, xC, sNil, sAsg, gV, slOf, xOne, sRet, sRetV, xTup, xLst, xNil, xCons, tOrT, tNotT, tAndT, tTru, xIf, xAnd, xNot, fnD, backP, xCall0, sb, si, xV, xB, fIs, ht, hst, truD, fLen, fNe_int, fEq_int, i0, i1, i2, optI, cnt1, h1, hw]
    · have hL' : ¬ ((L : Int) = 0) := by omega
      have ha := ha hw (by omega)
      have hb := hb hw (by omega)
      have i3 : fSl (.tuple [.str s, a, b]) (some 1) none = some ⟨.tuple [a, b], false⟩ := rfl
      cases ra : r a with
      | none =>
        rw [ra] at ha
        refine ⟨[.sh (.int 0), .sh a, .sh .none], ?_, rfl⟩
        simp [most, sSeq, sIf, xTest, xOp, xTwo, xO, xC, sNil, sAsg, gV, slOf, xOne, sRet, sRetV, xTup, xLst, xNil, xCons, tOrT, tNotT, tAndT, tTru, xIf, xAnd, xNot, fnD, backP, xCall0, sb, si, xV, xB, fIs, ht, hst, truD, fLen, fNe_int, fEq_int, i0, i1, i2, i3, optI, cnt1, h1, hw, hL, hL', ra, sFor, iA, xSlc, xMid, pTwo, pAt, pNo, itemsD, floop, fSub, fII, ha, fIsN, isNone]
      | some x =>
        rw [ra] at ha
        by_cases hx : 64 < x
        · refine ⟨[.sh (.int 0), .sh a, .sh (.int x)], ?_, rfl⟩
          simp [most, sSeq, sIf, xTest, xOp, xTwo, xO, xC, sNil, sAsg, gV, slOf, xOne, sRet, sRetV, xTup, xLst, xNil, xCons, tOrT, tNotT, tAndT, tTru, xIf, xAnd, xNot, fnD, backP, xCall0, sb, si, xV, xB, fIs, ht, hst, truD, fLen, fNe_int, fEq_int, i0, i1, i2, i3, optI, cnt1, h1, hw, hL, hL', ra, sFor, iA, xSlc, xMid, pTwo, pAt, pNo, itemsD, floop, fSub, fII, ha, fIsN, isNone, fAdd, fGt, fIB, d_MOST_LEAVES, hx]
        · cases rb : r b with
          | none =>
            rw [rb] at hb
            refine ⟨[.sh (.int (0 + x)), .sh b, .sh .none], ?_, rfl⟩
            simp [most, sSeq, sIf, xTest, xOp, xTwo, xO, xC, sNil, sAsg, gV, slOf, xOne, sRet, sRetV, xTup, xLst, xNil, xCons, tOrT, tNotT, tAndT, tTru, xIf, xAnd, xNot, fnD, backP, xCall0, sb, si, xV, xB, fIs, ht, hst, truD, fLen, fNe_int, fEq_int, i0, i1, i2, i3, optI, cnt1, h1, hw, hL, hL', ra, rb, sFor, iA, xSlc, xMid, pTwo, pAt, pNo, itemsD, floop, fSub, fII, ha, hb, fIsN, isNone, fAdd, fGt, fIB, d_MOST_LEAVES, hx, sAug, scal1, fAddS]
          | some y =>
            rw [rb] at hb
            by_cases hy : 64 < x + y
            · refine ⟨[.sh (.int (0 + x)), .sh b, .sh (.int y)], ?_, rfl⟩
              simp [most, sSeq, sIf, xTest, xOp, xTwo, xO, xC, sNil, sAsg, gV, slOf, xOne, sRet, sRetV, xTup, xLst, xNil, xCons, tOrT, tNotT, tAndT, tTru, xIf, xAnd, xNot, fnD, backP, xCall0, sb, si, xV, xB, fIs, ht, hst, truD, fLen, fNe_int, fEq_int, i0, i1, i2, i3, optI, cnt1, h1, hw, hL, hL', ra, rb, sFor, iA, xSlc, xMid, pTwo, pAt, pNo, itemsD, floop, fSub, fII, ha, hb, fIsN, isNone, fAdd, fGt, fIB, d_MOST_LEAVES, hx, hy, sAug, scal1, fAddS]
            · refine ⟨[.sh (.int (0 + x + y)), .sh b, .sh (.int y)], ?_, rfl⟩
              simp [most, sSeq, sIf, xTest, xOp, xTwo, xO, xC, sNil, sAsg, gV, slOf, xOne, sRet, sRetV, xTup, xLst, xNil, xCons, tOrT, tNotT, tAndT, tTru, xIf, xAnd, xNot, fnD, backP, xCall0, sb, si, xV, xB, fIs, ht, hst, truD, fLen, fNe_int, fEq_int, i0, i1, i2, i3, optI, cnt1, h1, hw, hL, hL', ra, rb, sFor, iA, xSlc, xMid, pTwo, pAt, pNo, itemsD, floop, fSub, fII, ha, hb, fIsN, isNone, fAdd, fGt, fIB, d_MOST_LEAVES, hx, hy, sAug, scal1, fAddS]
  · have i2 : fInA true (.str s) (.tuple [.str "and", .str "or"]) = sb true := by
      rw [in2]
      simp only [not_or] at hw
      simp [most, sSeq, sIf, xTest, xOp, xTwo, xO, xC, sNil, sAsg, gV, slOf, xOne, sRet, sRetV, xTup, xLst, xNil, xCons, tOrT, tNotT, tAndT, tTru, xIf, xAnd, xNot, fnD, backP, xCall0, sb, si, Ne.symm hw.1, Ne.symm hw.2]
    refine ⟨[.un, .un, .un], ?_, rfl⟩
    simp [most, sSeq, sIf, xTest, xOp, xTwo, xO, xC, sNil, sAsg, gV, slOf, xOne, sRet, sRetV, xTup, xLst, xNil, xCons, tOrT, tNotT, tAndT, tTru, xIf, xAnd, xNot, fnD, backP, xCall0, sb, si, xV, xB, fIs, ht, hst, truD, fLen, fNe_int, fEq_int, i0, i1, i2, optI, cnt1, h1, hw]
theorem tri_some {v : D} {s : Str} {a b : D} (h : tri v = some (s, a, b)) : v = .tuple [.str s, a, b] := by
  unfold tri at h
  split at h
  · cases h; rfl
  · cases h
theorem cnt1_no {r : D → Option Int} {v : D} {n : Int} (h : tri v = none) : cnt1 r v n = none := by
  unfold cnt1
  split
  · cases h
  · rfl
theorem cnt_no {v : D} {n : Int} (h : tri v = none) : ∀ L, cnt L v n = none
  | 0 => cnt1_no h
  | _ + 1 => cnt1_no h
theorem okD_tri {s : Str} {a b : D} (h : okD (.tuple [.str s, a, b])) : PyData.strOk s = true ∧ okD a ∧ okD b :=
  ⟨ok_str (okD_tup h _ (by simp)), okD_tup h _ (by simp), okD_tup h _ (by simp)⟩
theorem count_ok (n : Int) : ∀ (L k : Nat) (v : D), L < k → okD v → F_count_leaves k [.sh v, .sh (.int n), .sh (.int L)] = .ok ⟨optI (cnt L v n), false⟩ [.sh v, .sh (.int n), .sh (.int L)]
  | L, 0, _, h, _ => absurd h (by omega)
  | L, k + 1, v, hk, hv => by
    show fnD (b_count_leaves (F_count_leaves k)) [false, false, false] 3 _ = _
    cases ht : tri v with
    | none =>
      rw [cnt_no ht]
      exact fnD_rt (count_no _ v n L ht) rfl
    | some q =>
      obtain ⟨s, a, b⟩ := q
      obtain rfl := tri_some ht
      obtain ⟨h1, h2, h3⟩ := okD_tri hv
      by_cases hl : s = "leaf"
      · subst hl
        have e : cnt L (.tuple [.str "leaf", a, b]) n = if leafOk a b n then some 1 else none := by cases L <;> simp [most, sSeq, sIf, xTest, xOp, xTwo, xO, xC, sNil, sAsg, gV, slOf, xOne, sRet, sRetV, xTup, xLst, xNil, xCons, tOrT, tNotT, tAndT, tTru, xIf, xAnd, xNot, fnD, backP, xCall0, sb, si, cnt, cnt1]
        rw [e]
        exact fnD_rt (count_leaf _ a b n L) rfl
      · match L, hk with
        | 0, hk =>
          obtain ⟨e, he, hl2⟩ := count_nd (F_count_leaves k) s a b n 0 (fun _ => none) h1 hl (fun _ z => absurd z (by omega)) (fun _ z => absurd z (by omega))
          refine fnD_rt he ?_
          match e, hl2 with
          | [x, y, z], _ => rfl
        | L + 1, hk =>
          have e1 : ((L + 1 : Nat) : Int) - 1 = L := by omega
          obtain ⟨e, he, hl2⟩ := count_nd (F_count_leaves k) s a b n (L + 1) (fun d => cnt L d n) h1 hl (fun _ _ => by rw [e1]; exact count_ok n L k a (by omega) h2) (fun _ _ => by rw [e1]; exact count_ok n L k b (by omega) h3)
          rw [if_neg (by omega)] at he
          refine fnD_rt he ?_
          match e, hl2 with
          | [x, y, z], _ => rfl
/-- the law's own count -/
def lcnt (L : Nat) (v : D) (n : Int) : Int := (cnt L v n).getD 0
theorem cnt_pos (n : Int) : ∀ (L : Nat) (v : D) (x : Int), cnt L v n = some x → 0 < x ∧ x ≤ 64 := by
  have step : ∀ (r : D → Option Int) (v : D) (x : Int), (∀ d y, r d = some y → 0 < y ∧ y ≤ 64) → cnt1 r v n = some x → 0 < x ∧ x ≤ 64 := by
    intro r v x hr h
    unfold cnt1 at h
    split at h
    · rename_i s a b
      split at h
      · split at h
        · cases h; omega
        · cases h
      · split at h
        · cases ra : r a with
          | none => rw [ra] at h; cases h
          | some y =>
            rw [ra] at h
            simp only [Option.bind_some] at h
            split at h
            · cases h
            · cases rb : r b with
              | none => rw [rb] at h; cases h
              | some z =>
                rw [rb] at h
                simp only [Option.bind_some] at h
                split at h
                · cases h
                · cases h
                  have := hr a y ra
                  have := hr b z rb
                  omega
        · cases h
    · cases h
  intro L
  induction L with
  | zero => intro v x h; exact step _ v x (fun d y z => by cases z) h
  | succ L ih => intro v x h; exact step _ v x (fun d y z => ih d y z) h
theorem lcount_no (φ : XF) (v : D) (n L : Int) (h : tri v = none) : b__law_count φ [.sh v, .sh (.int n), .sh (.int L), .un, .un, .un, .un] = .ok (.rt ⟨.int 0, false⟩) [.sh v, .sh (.int n), .sh (.int L), .un, .un, .un, .un] := by
  unfold b__law_count
  cases v with
  | tuple ds =>
    match ds, h with
    | [], _ => simp [most, sSeq, sIf, xTest, xOp, xTwo, xO, xC, sNil, sAsg, gV, slOf, xOne, sRet, sRetV, xTup, xLst, xNil, xCons, tOrT, tNotT, tAndT, tTru, xIf, xAnd, xNot, fnD, backP, xCall0, sb, si, xV, xB, fIs, isT, truD, fLen, fNe_int]
    | [x], _ => simp [most, sSeq, sIf, xTest, xOp, xTwo, xO, xC, sNil, sAsg, gV, slOf, xOne, sRet, sRetV, xTup, xLst, xNil, xCons, tOrT, tNotT, tAndT, tTru, xIf, xAnd, xNot, fnD, backP, xCall0, sb, si, xV, xB, fIs, isT, truD, fLen, fNe_int]
    | [x, a], _ => simp [most, sSeq, sIf, xTest, xOp, xTwo, xO, xC, sNil, sAsg, gV, slOf, xOne, sRet, sRetV, xTup, xLst, xNil, xCons, tOrT, tNotT, tAndT, tTru, xIf, xAnd, xNot, fnD, backP, xCall0, sb, si, xV, xB, fIs, isT, truD, fLen, fNe_int]
    | [x, a, b], h =>
      have i0 : fIxA (.tuple [x, a, b]) (.int 0) = some ⟨x, false⟩ := rfl
      have hx : isT .str x = false := by cases x <;> first | rfl | cases h
      have ht : isT .tuple (.tuple [x, a, b]) = true := rfl
      simp [most, sSeq, sIf, xTest, xOp, xTwo, xO, xC, sNil, sAsg, gV, slOf, xOne, sRet, sRetV, xTup, xLst, xNil, xCons, tOrT, tNotT, tAndT, tTru, xIf, xAnd, xNot, fnD, backP, xCall0, sb, si, xV, xB, fIs, ht, truD, fLen, fNe_int, i0, hx]
    | x :: a :: b :: c :: ds, _ =>
      have : ¬ (((ds.length : Int) + 1 + 1 + 1 + 1) = 3) := by omega
      simp [most, sSeq, sIf, xTest, xOp, xTwo, xO, xC, sNil, sAsg, gV, slOf, xOne, sRet, sRetV, xTup, xLst, xNil, xCons, tOrT, tNotT, tAndT, tTru, xIf, xAnd, xNot, fnD, backP, xCall0, sb, si, xV, xB, fIs, isT, truD, fLen, fNe_int, this]
  | _ => simp [most, sSeq, sIf, xTest, xOp, xTwo, xO, xC, sNil, sAsg, gV, slOf, xOne, sRet, sRetV, xTup, xLst, xNil, xCons, tOrT, tNotT, tAndT, tTru, xIf, xAnd, xNot, fnD, backP, xCall0, sb, si, xV, xB, fIs, isT, truD]
theorem xLk_none (F : XF) : xLk none F = F := rfl
theorem in01 {j : Int} : fInA false (.int j) (.list [.int 0, .int 1]) = sb (decide (0 = j) || decide (1 = j)) := by
  simp [most, sSeq, sIf, xTest, xOp, xTwo, xO, xC, sNil, sAsg, gV, slOf, xOne, sRet, sRetV, xTup, xLst, xNil, xCons, tOrT, tNotT, tAndT, tTru, xIf, xAnd, xNot, fnD, backP, xCall0, sb, si, fInA, fIn, flatD, inD, PyData.eqv]
  rfl
def b2i (b : Bool) : Int := if b then 1 else 0
theorem lcount_lc (x a b : D) (s1 s2 : Sl) : xLc (iA (xSlc (.br 0) (pAt (xO (xC (.int 1)))) pNo)) (gV 6) tTrue (xAnd (xOne (fIs .int) (xB 6)) (xNot (xOne (fIs .bool) (xB 6)))) [6] [.sh (.tuple [x, a, b]), s1, s2, .un, .un, .un, .un] = .ok ⟨.list [.bool (isW a), .bool (isW b)], true⟩ [.sh (.tuple [x, a, b]), s1, s2, .un, .un, .un, .un] := by
  refine xLc_all [a, b] id (fun d => .bool (isW d)) ?_ rfl (by show 2 ≤ most; decide) ?_
  · have i3 : fSl (.tuple [x, a, b]) (some 1) none = some ⟨.tuple [a, b], false⟩ := rfl
    simp [most, sSeq, sIf, xTest, xOp, xTwo, xO, xC, sNil, sAsg, gV, slOf, xOne, sRet, sRetV, xTup, xLst, xNil, xCons, tOrT, tNotT, tAndT, tTru, xIf, xAnd, xNot, fnD, backP, xCall0, sb, si, xV, xB, i3, iA, xSlc, xMid, pTwo, pAt, pNo, itemsD]
  · intro d _
    exact ⟨[.sh (.tuple [x, a, b]), s1, s2, .un, .un, .un, .sh d], [.sh (.tuple [x, a, b]), s1, s2, .un, .un, .un, .sh d], false, [.sh (.tuple [x, a, b]), s1, s2, .un, .un, .un, .sh d], rfl, rfl, by cases d <;> rfl, rfl⟩
theorem lcount_leaf (φ : XF) (a b : D) (n L : Int) : ∃ g, b__law_count φ [.sh (.tuple [.str "leaf", a, b]), .sh (.int n), .sh (.int L), .un, .un, .un, .un] = .ok (.rt ⟨.int (b2i (leafOk a b n)), false⟩) [.sh (.tuple [.str "leaf", a, b]), .sh (.int n), .sh (.int L), g, .un, .un, .un] := by
  unfold b__law_count
  have i0 : fIxA (.tuple [.str "leaf", a, b]) (.int 0) = some ⟨.str "leaf", false⟩ := rfl
  have j1 : fIxA (.tuple [.str "leaf", a, b]) (.int 1) = some ⟨a, false⟩ := rfl
  have j2 : fIxA (.tuple [.str "leaf", a, b]) (.int 2) = some ⟨b, false⟩ := rfl
  have i1 : fEq (.str "leaf") (.str "leaf") = sb true := by rw [fEq_str ok_leafw ok_leafw]; simp
  have ht : isT .tuple (.tuple [.str "leaf", a, b]) = true := rfl
  have hs : isT .str (.str "leaf") = true := rfl
  have hl : ∀ b1 b2 : Bool, fAll (.list [.bool b1, .bool b2]) = sb (b1 && b2) := fun b1 b2 => by cases b1 <;> cases b2 <;> rfl
  have hI : ∀ k : Bool, fInt (.bool k) = some ⟨.int (b2i k), false⟩ := fun k => rfl
  refine ⟨.sh (.bool (isW a && isW b)), ?_⟩
  cases ha : isW a with
  | false =>
    have : leafOk a b n = false := by cases a <;> first | rfl | cases ha
    simp [most, sSeq, sIf, xTest, xOp, xTwo, xO, xC, sNil, sAsg, gV, slOf, xOne, sRet, sRetV, xTup, xLst, xNil, xCons, tOrT, tNotT, tAndT, tTru, xIf, xAnd, xNot, fnD, backP, xCall0, sb, si, xV, xB, fIs, ht, hs, truD, fLen, fNe_int, i0, j1, j2, i1, lcount_lc, ha, hl, hI, this, xLk_none, b2i]
  | true =>
    cases hb : isW b with
    | false =>
      have : leafOk a b n = false := by cases a <;> cases b <;> first | rfl | cases hb | cases ha
      simp [most, sSeq, sIf, xTest, xOp, xTwo, xO, xC, sNil, sAsg, gV, slOf, xOne, sRet, sRetV, xTup, xLst, xNil, xCons, tOrT, tNotT, tAndT, tTru, xIf, xAnd, xNot, fnD, backP, xCall0, sb, si, xV, xB, fIs, ht, hs, truD, fLen, fNe_int, i0, j1, j2, i1, lcount_lc, ha, hb, hl, hI, this, xLk_none, b2i]
    | true =>
      cases a <;> try (cases ha; done)
      cases b <;> try (cases hb; done)
      rename_i i j
      have e : leafOk (.int i) (.int j) n = (decide (0 ≤ i) && decide (i < n) && (decide (0 = j) || decide (1 = j))) := by
        unfold leafOk
        rw [Bool.eq_iff_iff]
        simp
        omega
      rw [e]
      by_cases h0 : 0 ≤ i
      · by_cases h1 : i < n
        · simp [most, sSeq, sIf, xTest, xOp, xTwo, xO, xC, sNil, sAsg, gV, slOf, xOne, sRet, sRetV, xTup, xLst, xNil, xCons, tOrT, tNotT, tAndT, tTru, xIf, xAnd, xNot, fnD, backP, xCall0, sb, si, xV, xB, fIs, ht, hs, truD, fLen, fNe_int, i0, j1, j2, i1, lcount_lc, isW, hl, hI, in01, xLk_none, b2i, xChn, fLe, fLt, fIB, h0, h1]
        · simp [most, sSeq, sIf, xTest, xOp, xTwo, xO, xC, sNil, sAsg, gV, slOf, xOne, sRet, sRetV, xTup, xLst, xNil, xCons, tOrT, tNotT, tAndT, tTru, xIf, xAnd, xNot, fnD, backP, xCall0, sb, si, xV, xB, fIs, ht, hs, truD, fLen, fNe_int, i0, j1, j2, i1, lcount_lc, isW, hl, hI, in01, xLk_none, b2i, xChn, fLe, fLt, fIB, h0, h1]
      · simp [most, sSeq, sIf, xTest, xOp, xTwo, xO, xC, sNil, sAsg, gV, slOf, xOne, sRet, sRetV, xTup, xLst, xNil, xCons, tOrT, tNotT, tAndT, tTru, xIf, xAnd, xNot, fnD, backP, xCall0, sb, si, xV, xB, fIs, ht, hs, truD, fLen, fNe_int, i0, j1, j2, i1, lcount_lc, isW, hl, hI, in01, xLk_none, b2i, xChn, fLe, fLt, fIB, h0]
/-- what the law's own count of parts says, from the parts' counts -/
def sumC (x y : Int) : Int := if 0 < x ∧ 0 < y ∧ x + y ≤ 64 then x + y else 0
theorem lcount_nd (φ : XF) (s : Str) (a b : D) (n : Int) (L : Nat) (x y : Int) (hs : PyData.strOk s = true) (h1 : s ≠ "leaf")
    (ha : s = "and" ∨ s = "or" → 0 < L → φ [.sh a, .sh (.int n), .sh (.int ((L : Int) - 1))] = .ok ⟨.int x, false⟩ [.sh a, .sh (.int n), .sh (.int ((L : Int) - 1))])
    (hb : s = "and" ∨ s = "or" → 0 < L → φ [.sh b, .sh (.int n), .sh (.int ((L : Int) - 1))] = .ok ⟨.int y, false⟩ [.sh b, .sh (.int n), .sh (.int ((L : Int) - 1))]) :
    ∃ e, b__law_count φ [.sh (.tuple [.str s, a, b]), .sh (.int n), .sh (.int L), .un, .un, .un, .un] = .ok (.rt ⟨.int (if (s = "and" ∨ s = "or") ∧ 0 < L then sumC x y else 0), false⟩) (.sh (.tuple [.str s, a, b]) :: .sh (.int n) :: .sh (.int L) :: e) ∧ e.length = 4 := by
  unfold b__law_count
  have i0 : fIxA (.tuple [.str s, a, b]) (.int 0) = some ⟨.str s, false⟩ := rfl
  have j1 : fIxA (.tuple [.str s, a, b]) (.int 1) = some ⟨a, false⟩ := rfl
  have j2 : fIxA (.tuple [.str s, a, b]) (.int 2) = some ⟨b, false⟩ := rfl
  have i1 : fEq (.str s) (.str "leaf") = sb false := by rw [fEq_str hs ok_leafw]; simp [most, sSeq, sIf, xTest, xOp, xTwo, xO, xC, sNil, sAsg, gV, slOf, xOne, sRet, sRetV, xTup, xLst, xNil, xCons, tOrT, tNotT, tAndT, tTru, xIf, xAnd, xNot, fnD, backP, xCall0, sb, si, h1]
  have ht : isT .tuple (.tuple [.str s, a, b]) = true := rfl
  have hst : isT .str (.str s) = true := rfl
  by_cases hw : s = "and" ∨ s = "or"
  · have i2 : fInA true (.str s) (.list [.str "and", .str "or"]) = sb false := by
      rw [in2L]; rcases hw with rfl | rfl <;> simp
    by_cases hL : L = 0
    · subst hL
      refine ⟨[.un, .un, .un, .un], ?_, rfl⟩
      simp [most, sSeq, sIf, xTest, xOp, xTwo, xO, xC, sNil, sAsg, gV, slOf, xOne, sRet, sRetV, xTup, xLst, xNil, xCons, tOrT, tNotT, tAndT, tTru, xIf, xAnd, xNot, fnD, backP, xCall0, sb, si, xV, xB, fIs, ht, hst, truD, fLen, fNe_int, fEq_int, i0, i1, i2]
    · have hL' : ¬ ((L : Int) = 0) := by omega
      have h0 : 0 < L := by omega
      have ha := ha hw h0
      have hb := hb hw h0
      refine ⟨[.un, .sh (.int x), .sh (.int y), .un], ?_, rfl⟩
      by_cases hx : 0 < x
      · by_cases hy : 0 < y
        · by_cases hz : x + y ≤ 64
          · simp [most, sSeq, sIf, xTest, xOp, xTwo, xO, xC, sNil, sAsg, gV, slOf, xOne, sRet, sRetV, xTup, xLst, xNil, xCons, tOrT, tNotT, tAndT, tTru, xIf, xAnd, xNot, fnD, backP, xCall0, sb, si, xV, xB, fIs, ht, hst, truD, fLen, fNe_int, fEq_int, i0, i1, i2, j1, j2, hL, hL', h0, hw, sPar, fSub, fII, ha, hb, fGt, fLe, fIB, fAdd, hx, hy, hz, sumC]
          · simp [most, sSeq, sIf, xTest, xOp, xTwo, xO, xC, sNil, sAsg, gV, slOf, xOne, sRet, sRetV, xTup, xLst, xNil, xCons, tOrT, tNotT, tAndT, tTru, xIf, xAnd, xNot, fnD, backP, xCall0, sb, si, xV, xB, fIs, ht, hst, truD, fLen, fNe_int, fEq_int, i0, i1, i2, j1, j2, hL, hL', h0, hw, sPar, fSub, fII, ha, hb, fGt, fLe, fIB, fAdd, hx, hy, hz, sumC]
        · simp [most, sSeq, sIf, xTest, xOp, xTwo, xO, xC, sNil, sAsg, gV, slOf, xOne, sRet, sRetV, xTup, xLst, xNil, xCons, tOrT, tNotT, tAndT, tTru, xIf, xAnd, xNot, fnD, backP, xCall0, sb, si, xV, xB, fIs, ht, hst, truD, fLen, fNe_int, fEq_int, i0, i1, i2, j1, j2, hL, hL', h0, hw, sPar, fSub, fII, ha, hb, fGt, fLe, fIB, fAdd, hx, hy, sumC]
      · simp [most, sSeq, sIf, xTest, xOp, xTwo, xO, xC, sNil, sAsg, gV, slOf, xOne, sRet, sRetV, xTup, xLst, xNil, xCons, tOrT, tNotT, tAndT, tTru, xIf, xAnd, xNot, fnD, backP, xCall0, sb, si, xV, xB, fIs, ht, hst, truD, fLen, fNe_int, fEq_int, i0, i1, i2, j1, j2, hL, hL', h0, hw, sPar, fSub, fII, ha, hb, fGt, fLe, fIB, fAdd, hx, sumC]
  · have i2 : fInA true (.str s) (.list [.str "and", .str "or"]) = sb true := by
      rw [in2L]
      simp only [not_or] at hw
      simp [most, sSeq, sIf, xTest, xOp, xTwo, xO, xC, sNil, sAsg, gV, slOf, xOne, sRet, sRetV, xTup, xLst, xNil, xCons, tOrT, tNotT, tAndT, tTru, xIf, xAnd, xNot, fnD, backP, xCall0, sb, si, Ne.symm hw.1, Ne.symm hw.2]
    refine ⟨[.un, .un, .un, .un], ?_, rfl⟩
    simp [most, sSeq, sIf, xTest, xOp, xTwo, xO, xC, sNil, sAsg, gV, slOf, xOne, sRet, sRetV, xTup, xLst, xNil, xCons, tOrT, tNotT, tAndT, tTru, xIf, xAnd, xNot, fnD, backP, xCall0, sb, si, xV, xB, fIs, ht, hst, truD, fLen, fNe_int, fEq_int, i0, i1, i2, hw]
theorem lcnt_nd (s : Str) (a b : D) (n : Int) (L : Nat) (h1 : s ≠ "leaf") : lcnt (L + 1) (.tuple [.str s, a, b]) n = if s = "and" ∨ s = "or" then sumC (lcnt L a n) (lcnt L b n) else 0 := by
  unfold lcnt
  show (cnt1 (fun d => cnt L d n) _ n).getD 0 = _
  simp only [cnt1, h1, if_false]
  split
  · cases ra : cnt L a n with
    | none => simp [most, sSeq, sIf, xTest, xOp, xTwo, xO, xC, sNil, sAsg, gV, slOf, xOne, sRet, sRetV, xTup, xLst, xNil, xCons, tOrT, tNotT, tAndT, tTru, xIf, xAnd, xNot, fnD, backP, xCall0, sb, si, sumC]
    | some x =>
      have hx := cnt_pos n L a x ra
      cases rb : cnt L b n with
      | none => simp [most, sSeq, sIf, xTest, xOp, xTwo, xO, xC, sNil, sAsg, gV, slOf, xOne, sRet, sRetV, xTup, xLst, xNil, xCons, tOrT, tNotT, tAndT, tTru, xIf, xAnd, xNot, fnD, backP, xCall0, sb, si, sumC]
      | some y =>
        have hy := cnt_pos n L b y rb
        by_cases h : 64 < x + y
        · have : ¬ (x + y ≤ 64) := by omega
          have h64 : ¬ 64 < x := by omega
          simp [most, sSeq, sIf, xTest, xOp, xTwo, xO, xC, sNil, sAsg, gV, slOf, xOne, sRet, sRetV, xTup, xLst, xNil, xCons, tOrT, tNotT, tAndT, tTru, xIf, xAnd, xNot, fnD, backP, xCall0, sb, si, sumC, h, this, h64]
        · have : (x + y ≤ 64) := by omega
          have h64 : ¬ 64 < x := by omega
          simp [most, sSeq, sIf, xTest, xOp, xTwo, xO, xC, sNil, sAsg, gV, slOf, xOne, sRet, sRetV, xTup, xLst, xNil, xCons, tOrT, tNotT, tAndT, tTru, xIf, xAnd, xNot, fnD, backP, xCall0, sb, si, sumC, h, this, h64, hx.1, hy.1]
  · rfl
theorem lcount_ok (n : Int) : ∀ (L k : Nat) (v : D), L < k → okD v → F__law_count k [.sh v, .sh (.int n), .sh (.int L)] = .ok ⟨.int (lcnt L v n), false⟩ [.sh v, .sh (.int n), .sh (.int L)]
  | L, 0, _, h, _ => absurd h (by omega)
  | L, k + 1, v, hk, hv => by
    show fnD (b__law_count (F__law_count k)) [false, false, false] 4 _ = _
    cases ht : tri v with
    | none =>
      have : lcnt L v n = 0 := by unfold lcnt; rw [cnt_no ht]; rfl
      rw [this]
      exact fnD_rt (lcount_no _ v n L ht) rfl
    | some q =>
      obtain ⟨s, a, b⟩ := q
      obtain rfl := tri_some ht
      obtain ⟨h1, h2, h3⟩ := okD_tri hv
      by_cases hl : s = "leaf"
      · subst hl
        have e : lcnt L (.tuple [.str "leaf", a, b]) n = b2i (leafOk a b n) := by unfold lcnt; cases L <;> cases hc : leafOk a b n <;> simp [most, sSeq, sIf, xTest, xOp, xTwo, xO, xC, sNil, sAsg, gV, slOf, xOne, sRet, sRetV, xTup, xLst, xNil, xCons, tOrT, tNotT, tAndT, tTru, xIf, xAnd, xNot, fnD, backP, xCall0, sb, si, cnt, cnt1, hc, b2i]
        rw [e]
        obtain ⟨g, hg⟩ := lcount_leaf (F__law_count k) a b n L
        exact fnD_rt hg rfl
      · match L, hk with
        | 0, hk =>
          obtain ⟨e, he, hl2⟩ := lcount_nd (F__law_count k) s a b n 0 0 0 h1 hl (fun _ z => absurd z (by omega)) (fun _ z => absurd z (by omega))
          have : lcnt 0 (.tuple [.str s, a, b]) n = 0 := by
            simp [most, sSeq, sIf, xTest, xOp, xTwo, xO, xC, sNil, sAsg, gV, slOf, xOne, sRet, sRetV, xTup, xLst, xNil, xCons, tOrT, tNotT, tAndT, tTru, xIf, xAnd, xNot, fnD, backP, xCall0, sb, si, lcnt, cnt, cnt1, hl]
          rw [this]
          rw [if_neg (by omega)] at he
          refine fnD_rt he ?_
          match e, hl2 with
          | [x, y, z, w], _ => rfl
        | L + 1, hk =>
          have e1 : ((L + 1 : Nat) : Int) - 1 = L := by omega
          obtain ⟨e, he, hl2⟩ := lcount_nd (F__law_count k) s a b n (L + 1) (lcnt L a n) (lcnt L b n) h1 hl (fun _ _ => by rw [e1]; exact lcount_ok n L k a (by omega) h2) (fun _ _ => by rw [e1]; exact lcount_ok n L k b (by omega) h3)
          rw [lcnt_nd s a b n L hl]
          have : (if (s = "and" ∨ s = "or") ∧ 0 < L + 1 then sumC (lcnt L a n) (lcnt L b n) else 0) = (if s = "and" ∨ s = "or" then sumC (lcnt L a n) (lcnt L b n) else 0) := by simp
          rw [this] at he
          refine fnD_rt he ?_
          match e, hl2 with
          | [x, y, z, w], _ => rfl


theorem check_ok (n : Int) (h : 1 ≤ n) (h1 : n ≤ 5) : F_check_number [.sh (.int n)] = .ok ⟨.none, false⟩ [.sh (.int n)] := by
  refine fnD_nx (eb := [.sh (.int n)]) ?_ rfl
  unfold b_check_number
  simp [most, sSeq, sIf, xTest, xOp, xTwo, xO, xC, sNil, sAsg, gV, slOf, xOne, sRet, sRetV, xTup, xLst, xNil, xCons, tOrT, tNotT, tAndT, tTru, xIf, xAnd, xNot, fnD, backP, xCall0, sb, si, xV, whole_ok, isW, truD, xChn, fLe, fIB, d_MOST_VARIABLES, h, h1]
theorem isf_ok (n : Int) (v : D) (h : 1 ≤ n) (h1 : n ≤ 5) (hv : okD v) : F_is_formula [.sh (.int n), .sh v] = .ok ⟨.bool (cnt 12 v n).isSome, false⟩ [.sh (.int n), .sh v] := by
  refine fnD_rt (eb := [.sh (.int n), .sh v]) ?_ rfl
  unfold b_is_formula
  have hc := count_ok n 12 30 v (by omega) hv
  have e12 : ((12 : Nat) : Int) = 12 := rfl
  rw [e12] at hc
  have hN : fNotN (optI (cnt 12 v n)) .none = sb (cnt 12 v n).isSome := by cases cnt 12 v n <;> rfl
  simp [most, sSeq, sIf, xTest, xOp, xTwo, xO, xC, sNil, sAsg, gV, slOf, xOne, sRet, sRetV, xTup, xLst, xNil, xCons, tOrT, tNotT, tAndT, tTru, xIf, xAnd, xNot, fnD, backP, xCall0, sb, si, xV, check_ok n h h1, hc, d_MOST_LEVELS, hN, sExpr]
theorem chk_ok (n : Int) (v : D) (h : 1 ≤ n) (h1 : n ≤ 5) (hv : okD v) : F_check_formula [.sh (.int n), .sh v] = if (cnt 12 v n).isSome then .ok ⟨.none, false⟩ [.sh (.int n), .sh v] else .ex ⟨0, none⟩ := by
  have hi := isf_ok n v h h1 hv
  cases hc : (cnt 12 v n).isSome with
  | true =>
    rw [hc] at hi
    rw [if_pos rfl]
    refine fnD_nx (eb := [.sh (.int n), .sh v]) ?_ rfl
    unfold b_check_formula
    simp [most, sSeq, sIf, xTest, xOp, xTwo, xO, xC, sNil, sAsg, gV, slOf, xOne, sRet, sRetV, xTup, xLst, xNil, xCons, tOrT, tNotT, tAndT, tTru, xIf, xAnd, xNot, fnD, backP, xCall0, sb, si, xV, hi, truD]
  | false =>
    rw [hc] at hi
    simp [most, sSeq, sIf, xTest, xOp, xTwo, xO, xC, sNil, sAsg, gV, slOf, xOne, sRet, sRetV, xTup, xLst, xNil, xCons, tOrT, tNotT, tAndT, tTru, xIf, xAnd, xNot, fnD, backP, xCall0, sb, si, F_check_formula, b_check_formula, xV, hi, truD, sRaise]
theorem told_bad (w n : Int) (v : D) (h : 1 ≤ n) (h1 : n ≤ 5) (hv : okD v) (hc : cnt 12 v n = none) (hw : w = 0 ∨ w = 1 ∨ w = 2 ∨ w = 3) : F__law_told [.sh (.int w), .sh (.int n), .sh v] = .ok ⟨.str "<malformed>", false⟩ [.sh (.int w), .sh (.int n), .sh v] := by
  have hk := chk_ok n v h h1 hv
  rw [hc] at hk
  simp only [Option.isSome_none, Bool.false_eq_true, if_false] at hk
  rcases hw with rfl | rfl | rfl | rfl
  · simp [most, sSeq, sIf, xTest, xOp, xTwo, xO, xC, sNil, sAsg, gV, slOf, xOne, sRet, sRetV, xTup, xLst, xNil, xCons, tOrT, tNotT, tAndT, tTru, xIf, xAnd, xNot, fnD, backP, xCall0, sb, si, F__law_told, b__law_told, F_lamp_of, b_lamp_of, xV, fEq_int, hk, sExpr, sTry, pick, m_Malformed, xB]
  · simp [most, sSeq, sIf, xTest, xOp, xTwo, xO, xC, sNil, sAsg, gV, slOf, xOne, sRet, sRetV, xTup, xLst, xNil, xCons, tOrT, tNotT, tAndT, tTru, xIf, xAnd, xNot, fnD, backP, xCall0, sb, si, F__law_told, b__law_told, F_leaves_of, b_leaves_of, xV, fEq_int, hk, sExpr, sTry, pick, m_Malformed, xB]
  · simp [most, sSeq, sIf, xTest, xOp, xTwo, xO, xC, sNil, sAsg, gV, slOf, xOne, sRet, sRetV, xTup, xLst, xNil, xCons, tOrT, tNotT, tAndT, tTru, xIf, xAnd, xNot, fnD, backP, xCall0, sb, si, F__law_told, b__law_told, F_levels_of, b_levels_of, xV, fEq_int, hk, sExpr, sTry, pick, m_Malformed, xB]
  · simp [most, sSeq, sIf, xTest, xOp, xTwo, xO, xC, sNil, sAsg, gV, slOf, xOne, sRet, sRetV, xTup, xLst, xNil, xCons, tOrT, tNotT, tAndT, tTru, xIf, xAnd, xNot, fnD, backP, xCall0, sb, si, F__law_told, b__law_told, F_is_plain, b_is_plain, xV, fEq_int, hk, sExpr, sTry, pick, m_Malformed, xB]
theorem says_ok (a b : Bool) (h : a = b) : F__law_says [.sh (.bool a), .sh (.bool b)] = .ok ⟨.bool true, false⟩ [.sh (.bool a), .sh (.bool b)] := by
  subst h; cases a <;> rfl


/-! ### draws -/
def DS (x : Sl) : Prop := ∃ cs a c s, Dr cs a c s ∧ x = .ow true (drD cs a c s)
theorem take_ds {x : Sl} {m : Int} (h : DS x) (h0 : 0 < m) (h1 : m < 1000000) : ∃ (f : Int) (x' : Sl), DS x' ∧ 0 ≤ f ∧ f < m ∧ ∀ (i : Nat) (g : En → Res (List D)) (e : En), e[i]? = some x → g e = .ok [.int m] e → xCallD i 1 F__law_take g e = .ok ⟨.int f, false⟩ (e.set i x') := by
  obtain ⟨cs, a, c, s, hD, rfl⟩ := h
  obtain ⟨f, a', c', s', hD', f0, f1, hf⟩ := take_ok hD h0 h1
  exact ⟨f, _, ⟨_, _, _, _, hD', rfl⟩, f0, f1, fun i g e he hg => take_call he hg hf⟩
theorem xTup_of {g : En → Res (List D)} {e e1 : En} {ds : List D} (h : g e = .ok ds e1) (hl : ds.length ≤ most) : xTup g e = .ok ⟨.tuple ds, false⟩ e1 := by
  show (g e).bind _ = _
  rw [h, bind_ok, if_pos hl]
theorem tOrT_tt {t u : En → Res Bool} {e e1 : En} (h : t e = .ok true e1) : tOrT t u e = .ok true e1 := by
  show (t e).bind _ = _
  rw [h]; rfl
theorem tOrT_ff {t u : En → Res Bool} {e e1 : En} (h : t e = .ok false e1) : tOrT t u e = u e1 := by
  show (t e).bind _ = _
  rw [h]; rfl
theorem xCons1 {f : XF} {e e1 : En} {r : Rs} (h : f e = .ok r e1) : xCons f xNil e = .ok [r.d] e1 := xCons_of h rfl
theorem seq_rt {f g : SF} {e e1 : En} {r : Rs} (h : f e = .ok (.rt r) e1) : sSeq f g e = .ok (.rt r) e1 := by
  unfold sSeq
  rw [h]; rfl
/-! ### formulas -/
inductive Fm | lf (i : Nat) (b : Bool) | nd (a : Bool) (l r : Fm)
def opS (a : Bool) : Str := if a then "and" else "or"
def Fm.d : Fm → D
  | .lf i b => .tuple [.str "leaf", .int i, .int (b2i b)]
  | .nd a l r => .tuple [.str (opS a), l.d, r.d]
def Fm.ok (n : Nat) : Nat → Fm → Prop
  | _, .lf i _ => i < n
  | k + 1, .nd _ l r => l.ok n k ∧ r.ok n k
  | 0, .nd _ _ _ => False
theorem okw_and : PyData.strOk "and" = true := by decide +kernel
theorem okw_or : PyData.strOk "or" = true := by decide +kernel
theorem ok_opS (a : Bool) : PyData.strOk (opS a) = true := by cases a; exact okw_or; exact okw_and
theorem Fm.lay : ∀ (f : Fm) (n k : Nat), f.ok n k → f.d.canLay0 = true ∧ f.d.depth ≤ k + 1
  | .lf i b, n, k, _ => by simp [Fm.d, PyData.canLay0, PyData.canLayAll0, PyData.depth, PyData.depthAll, ok_leafw]
  | .nd a l r, n, 0, h => by cases h
  | .nd a l r, n, k + 1, h => by
    obtain ⟨h1, h2⟩ := Fm.lay l n k h.1
    obtain ⟨h3, h4⟩ := Fm.lay r n k h.2
    simp [Fm.d, PyData.canLay0, PyData.canLayAll0, PyData.depth, PyData.depthAll, ok_opS, h1, h3]
    omega
theorem Fm.okD {f : Fm} {n k : Nat} (h : f.ok n k) (hk : k ≤ 60) : okD f.d := by
  obtain ⟨h1, h2⟩ := f.lay n k h
  exact okD_iff.mpr ⟨h1, by omega⟩
def fmLeafX : XF := xTup (xCons (xC (.str "leaf")) (xCons (xCallD 0 1 F__law_take (xCons (xV 1) xNil)) (xCons (xOne fInt (xO (xOp fGt (.ex (xCallD 0 1 F__law_take (xCons (xC (.int 3)) xNil))) (xO (xC (.int 0)))))) xNil)))
theorem fmLeaf {x s : Sl} {n : Nat} (hx : DS x) (hn : 0 < n) (h5 : n ≤ 5) : ∃ (i : Nat) (b : Bool) (x' : Sl), DS x' ∧ i < n ∧ fmLeafX [x, .sh (.int n), s] = .ok ⟨(Fm.lf i b).d, false⟩ [x', .sh (.int n), s] := by
  obtain ⟨f, x1, d1, f0, f1, h1⟩ := take_ds (m := n) hx (by omega) (by omega)
  obtain ⟨q, x2, d2, q0, q1, h2⟩ := take_ds (m := 3) d1 (by decide) (by decide)
  refine ⟨f.toNat, decide (q > 0), x2, d2, by omega, ?_⟩
  have e1 : (f.toNat : Int) = f := by omega
  have t1 := h1 0 (xCons (xV 1) xNil) [x, .sh (.int n), s] rfl rfl
  have t2 := h2 0 (xCons (xC (.int 3)) xNil) [x1, .sh (.int n), s] rfl rfl
  have t3 : xOp fGt (.ex (xCallD 0 1 F__law_take (xCons (xC (.int 3)) xNil))) (xO (xC (.int 0))) [x1, .sh (.int n), s] = .ok ⟨.bool (decide (q > 0)), false⟩ [x2, .sh (.int n), s] := xOp_ex (d := .int 0) t2 rfl rfl
  have t4 : xOne fInt (xO (xOp fGt (.ex (xCallD 0 1 F__law_take (xCons (xC (.int 3)) xNil))) (xO (xC (.int 0))))) [x1, .sh (.int n), s] = .ok ⟨.int (b2i (decide (q > 0))), false⟩ [x2, .sh (.int n), s] := xOne_of (xO_of t3) rfl
  have := xTup_of (xCons_of (f := xC (.str "leaf")) (e := [x, .sh (.int n), s]) rfl (xCons_of t1 (xCons1 t4))) (by show 3 ≤ most; decide)
  unfold fmLeafX Fm.d
  rw [e1]
  exact this
theorem fm_ok (n : Nat) (hn : 0 < n) (h5 : n ≤ 5) : ∀ (L k : Nat) (x : Sl), L < k → DS x → ∃ (f : Fm) (x' : Sl), DS x' ∧ f.ok n L ∧ F__law_formula k [x, .sh (.int n), .sh (.int L)] = .ok ⟨f.d, false⟩ [x', .sh (.int n), .sh (.int L)]
  | L, 0, _, h, _ => absurd h (by omega)
  | 0, k + 1, x, _, hx => by
    obtain ⟨i, b, x', d', hi, hl⟩ := fmLeaf (s := .sh (.int 0)) hx hn h5
    refine ⟨.lf i b, x', d', hi, ?_⟩
    refine fnD_rt (eb := [x', .sh (.int n), .sh (.int 0)]) ?_ ?_
    · refine seq_rt (if_tt (e1 := [x, .sh (.int n), .sh (.int 0)]) (tOrT_tt (xTest_of (fr := false) (xOp_br (d0 := .int 0) (d := .int 0) rfl rfl rfl (by rw [fEq_int]; rfl)))) |>.trans (sRet_of hl))
    · obtain ⟨cs, a, c, s, _, rfl⟩ := d'; rfl
  | L + 1, k + 1, x, hk, hx => by
    obtain ⟨q, x1, d1, q0, q1, h1⟩ := take_ds (m := 4) hx (by decide) (by decide)
    have t0 : xTest (xOp fEq (.br 2) (xO (xC (.int 0)))) [x, .sh (.int n), .sh (.int (L + 1 : Nat))] = .ok false [x, .sh (.int n), .sh (.int (L + 1 : Nat))] := xTest_of (fr := false) (xOp_br (d0 := .int (L + 1 : Nat)) (d := .int 0) rfl rfl rfl (by rw [fEq_int]; simp [sb]; omega))
    have t1 : xTest (xOp fEq (.ex (xCallD 0 1 F__law_take (xCons (xC (.int 4)) xNil))) (xO (xC (.int 0)))) [x, .sh (.int n), .sh (.int (L + 1 : Nat))] = .ok (decide (q = 0)) [x1, .sh (.int n), .sh (.int (L + 1 : Nat))] :=
      xTest_of (fr := false) (xOp_ex (r := ⟨.int q, false⟩) (d := .int 0) (h1 0 _ _ rfl rfl) rfl fEq_int)
    by_cases hq : q = 0
    · obtain ⟨i, b, x', d', hi, hl⟩ := fmLeaf (s := .sh (.int (L + 1 : Nat))) d1 hn h5
      refine ⟨.lf i b, x', d', hi, ?_⟩
      refine fnD_rt (eb := [x', .sh (.int n), .sh (.int (L + 1 : Nat))]) ?_ ?_
      · refine seq_rt ((if_tt (e1 := [x1, .sh (.int n), .sh (.int (L + 1 : Nat))]) ?_).trans (sRet_of hl))
        exact (tOrT_ff t0).trans (by rw [t1]; simp [hq])
      · obtain ⟨cs, a, c, s, _, rfl⟩ := d'; rfl
    · obtain ⟨p, x2, d2, p0, p1, h2⟩ := take_ds (m := 2) d1 (by decide) (by decide)
      obtain ⟨fl, x3, d3, ok3, h3⟩ := fm_ok n hn h5 L k x2 (by omega) d2
      obtain ⟨fr, x4, d4, ok4, h4⟩ := fm_ok n hn h5 L k x3 (by omega) d3
      refine ⟨.nd (decide (p = 0)) fl fr, x4, d4, ⟨ok3, ok4⟩, ?_⟩
      have u0 : xOp fIxA (.ex (xTup (xCons (xC (.str "and")) (xCons (xC (.str "or")) xNil)))) (xO (xCallD 0 1 F__law_take (xCons (xC (.int 2)) xNil))) [x1, .sh (.int n), .sh (.int (L + 1 : Nat))] = .ok ⟨.str (opS (decide (p = 0))), false⟩ [x2, .sh (.int n), .sh (.int (L + 1 : Nat))] :=
        xOp_ex (r := ⟨.tuple [.str "and", .str "or"], false⟩) rfl (xO_of (h2 0 _ _ rfl rfl)) (by
          have : p = 0 ∨ p = 1 := by omega
          rcases this with rfl | rfl <;> rfl)
      have eL : ((L + 1 : Nat) : Int) - 1 = L := by omega
      have call : ∀ (y y' : Sl) (f : Fm), DS y → DS y' → F__law_formula k [y, .sh (.int n), .sh (.int L)] = .ok ⟨f.d, false⟩ [y', .sh (.int n), .sh (.int L)] → xCallD 0 2 (F__law_formula k) (xCons (xV 1) (xCons (xOp fSub (.br 2) (xO (xC (.int 1)))) xNil)) [y, .sh (.int n), .sh (.int (L + 1 : Nat))] = .ok ⟨f.d, false⟩ [y', .sh (.int n), .sh (.int (L + 1 : Nat))] := by
        intro y y' f dy dy' h
        obtain ⟨cs, a, c, s, _, rfl⟩ := dy
        obtain ⟨cs', a', c', s', _, rfl⟩ := dy'
        have ha : xCons (xV 1) (xCons (xOp fSub (.br 2) (xO (xC (.int 1)))) xNil) [.ow true (drD cs a c s), .sh (.int n), .sh (.int (L + 1 : Nat))] = .ok [.int n, .int L] [.ow true (drD cs a c s), .sh (.int n), .sh (.int (L + 1 : Nat))] :=
          xCons_of (r := ⟨.int n, false⟩) rfl (xCons1 (r := ⟨.int L, false⟩) (xOp_br (d0 := .int (L + 1 : Nat)) (d := .int 1) rfl rfl rfl (by rw [← eL]; rfl)))
        have ho : ownL 0 [.ow true (drD cs a c s), .sh (.int n), .sh (.int (L + 1 : Nat))] = some [.list (cs.map .int), .int a, .int c, .int s] := rfl
        unfold xCallD
        rw [ho, ha]
        simp only [Option.isSome_some, if_true, bind_ok, List.length_cons, List.length_nil, Nat.zero_add, ho, List.map_cons, List.map_nil]
        unfold drD at h
        rw [h]
        rfl
      refine fnD_rt (eb := [x4, .sh (.int n), .sh (.int (L + 1 : Nat))]) ?_ ?_
      · refine (seq_nx (e1 := [x1, .sh (.int n), .sh (.int (L + 1 : Nat))]) ?_).trans (sRet_of (r := ⟨(Fm.nd (decide (p = 0)) fl fr).d, false⟩) ?_)
        · refine (if_ff (e1 := [x1, .sh (.int n), .sh (.int (L + 1 : Nat))]) ?_).trans rfl
          exact (tOrT_ff t0).trans (by rw [t1]; simp [hq])
        · exact xTup_of (xCons_of u0 (xCons_of (call _ _ _ d2 d3 h3) (xCons1 (call _ _ _ d3 d4 h4)))) (by show 3 ≤ most; decide)
      · obtain ⟨cs, a, c, s, _, rfl⟩ := d4; rfl


/-! ### tables as numbers -/
def tb (p : Nat → Bool) : Nat → Nat
  | 0 => 0
  | m + 1 => tb p m + (if p m then 2 ^ m else 0)
theorem tb_lt (p : Nat → Bool) : ∀ m, tb p m < 2 ^ m
  | 0 => by simp [tb]
  | m + 1 => by
    have := tb_lt p m
    unfold tb
    rw [Nat.pow_succ]
    split <;> omega
theorem tb_bit (p : Nat → Bool) : ∀ m x, (tb p m).testBit x = (decide (x < m) && p x)
  | 0, x => by simp [tb]
  | m + 1, x => by
    have h := tb_bit p m x
    have hl := tb_lt p m
    unfold tb
    by_cases hp : p m = true
    · rw [if_pos hp, Nat.add_comm]
      rcases Nat.lt_trichotomy x m with hx | hx | hx
      · rw [Nat.testBit_two_pow_add_gt hx, h]
        have : x < m + 1 := by omega
        simp [hx, this]
      · subst hx
        rw [Nat.testBit_two_pow_add_eq, h]
        simp [hp]
      · have h1 : 2 ^ m + tb p m < 2 ^ x := Nat.lt_of_lt_of_le (by rw [Nat.pow_succ]; omega : 2 ^ m + tb p m < 2 ^ (m + 1)) (Nat.pow_le_pow_right (by decide) hx)
        rw [Nat.testBit_lt_two_pow h1]
        have : ¬ x < m + 1 := by omega
        simp [this]
    · rw [if_neg hp, Nat.add_zero, h]
      by_cases hx : x < m
      · have : x < m + 1 := by omega
        simp [hx, this]
      · by_cases hxm : x = m
        · subst hxm; simp [hp]
        · have : ¬ x < m + 1 := by omega
          simp [hx, this]
theorem tb_and (p q : Nat → Bool) (m : Nat) : tb p m &&& tb q m = tb (fun x => p x && q x) m := by
  apply Nat.eq_of_testBit_eq
  intro x
  rw [Nat.testBit_and, tb_bit, tb_bit, tb_bit]
  cases decide (x < m) <;> cases p x <;> cases q x <;> rfl
theorem tb_or (p q : Nat → Bool) (m : Nat) : tb p m ||| tb q m = tb (fun x => p x || q x) m := by
  apply Nat.eq_of_testBit_eq
  intro x
  rw [Nat.testBit_or, tb_bit, tb_bit, tb_bit]
  cases decide (x < m) <;> cases p x <;> cases q x <;> rfl


theorem bAnd_nat (a b : Nat) : Builtin.bitAnd (a : Int) (b : Int) = ((a &&& b : Nat) : Int) := by
  have h1 : decide ((0 : Int) ≤ (a : Int)) = true := by simp
  have h2 : decide ((0 : Int) ≤ (b : Int)) = true := by simp
  unfold Builtin.bitAnd
  rw [h1, h2]
  simp only [Int.toNat_natCast]
theorem bOr_nat (a b : Nat) : Builtin.bitOr (a : Int) (b : Int) = ((a ||| b : Nat) : Int) := by
  have e : ∀ c : Nat, Builtin.bitNot (c : Int) = -(c : Int) - 1 := fun c => rfl
  have e2 : ∀ c : Nat, (Builtin.bitNot (-(c : Int) - 1)).toNat = c := fun c => by simp only [Builtin.bitNot]; omega
  have h1 : decide ((0 : Int) ≤ -(a : Int) - 1) = false := by simp only [decide_eq_false_iff_not]; omega
  have h2 : decide ((0 : Int) ≤ -(b : Int) - 1) = false := by simp only [decide_eq_false_iff_not]; omega
  unfold Builtin.bitOr
  rw [e, e]
  unfold Builtin.bitAnd
  rw [h1, h2]
  simp only [e2]
  rw [e]
  unfold Builtin.bitNot
  omega
def Fm.val : Fm → Nat → Bool
  | .lf i b, x => (x / 2 ^ i % 2 == b2n b)
  | .nd true l r, x => l.val x && r.val x
  | .nd false l r, x => l.val x || r.val x
where b2n : Bool → Nat | true => 1 | false => 0
/-- the leaf's own table -/
def ltb (i : Nat) (b : Bool) (m : Nat) : Nat := tb ((Fm.lf i b).val) m


theorem ltab_1_0_0 : F_leaf_table [.sh (.int 1), .sh (.int 0), .sh (.int 0)] = .ok ⟨.int (ltb 0 false 2), false⟩ [.sh (.int 1), .sh (.int 0), .sh (.int 0)] := by kernel_rfl
theorem ltab_1_0_1 : F_leaf_table [.sh (.int 1), .sh (.int 0), .sh (.int 1)] = .ok ⟨.int (ltb 0 true 2), false⟩ [.sh (.int 1), .sh (.int 0), .sh (.int 1)] := by kernel_rfl
theorem ltab_2_0_0 : F_leaf_table [.sh (.int 2), .sh (.int 0), .sh (.int 0)] = .ok ⟨.int (ltb 0 false 4), false⟩ [.sh (.int 2), .sh (.int 0), .sh (.int 0)] := by kernel_rfl
theorem ltab_2_0_1 : F_leaf_table [.sh (.int 2), .sh (.int 0), .sh (.int 1)] = .ok ⟨.int (ltb 0 true 4), false⟩ [.sh (.int 2), .sh (.int 0), .sh (.int 1)] := by kernel_rfl
theorem ltab_2_1_0 : F_leaf_table [.sh (.int 2), .sh (.int 1), .sh (.int 0)] = .ok ⟨.int (ltb 1 false 4), false⟩ [.sh (.int 2), .sh (.int 1), .sh (.int 0)] := by kernel_rfl
theorem ltab_2_1_1 : F_leaf_table [.sh (.int 2), .sh (.int 1), .sh (.int 1)] = .ok ⟨.int (ltb 1 true 4), false⟩ [.sh (.int 2), .sh (.int 1), .sh (.int 1)] := by kernel_rfl
theorem ltab_3_0_0 : F_leaf_table [.sh (.int 3), .sh (.int 0), .sh (.int 0)] = .ok ⟨.int (ltb 0 false 8), false⟩ [.sh (.int 3), .sh (.int 0), .sh (.int 0)] := by kernel_rfl
theorem ltab_3_0_1 : F_leaf_table [.sh (.int 3), .sh (.int 0), .sh (.int 1)] = .ok ⟨.int (ltb 0 true 8), false⟩ [.sh (.int 3), .sh (.int 0), .sh (.int 1)] := by kernel_rfl
theorem ltab_3_1_0 : F_leaf_table [.sh (.int 3), .sh (.int 1), .sh (.int 0)] = .ok ⟨.int (ltb 1 false 8), false⟩ [.sh (.int 3), .sh (.int 1), .sh (.int 0)] := by kernel_rfl
theorem ltab_3_1_1 : F_leaf_table [.sh (.int 3), .sh (.int 1), .sh (.int 1)] = .ok ⟨.int (ltb 1 true 8), false⟩ [.sh (.int 3), .sh (.int 1), .sh (.int 1)] := by kernel_rfl
theorem ltab_3_2_0 : F_leaf_table [.sh (.int 3), .sh (.int 2), .sh (.int 0)] = .ok ⟨.int (ltb 2 false 8), false⟩ [.sh (.int 3), .sh (.int 2), .sh (.int 0)] := by kernel_rfl
theorem ltab_3_2_1 : F_leaf_table [.sh (.int 3), .sh (.int 2), .sh (.int 1)] = .ok ⟨.int (ltb 2 true 8), false⟩ [.sh (.int 3), .sh (.int 2), .sh (.int 1)] := by kernel_rfl
theorem ltab_4_0_0 : F_leaf_table [.sh (.int 4), .sh (.int 0), .sh (.int 0)] = .ok ⟨.int (ltb 0 false 16), false⟩ [.sh (.int 4), .sh (.int 0), .sh (.int 0)] := by kernel_rfl
theorem ltab_4_0_1 : F_leaf_table [.sh (.int 4), .sh (.int 0), .sh (.int 1)] = .ok ⟨.int (ltb 0 true 16), false⟩ [.sh (.int 4), .sh (.int 0), .sh (.int 1)] := by kernel_rfl
theorem ltab_4_1_0 : F_leaf_table [.sh (.int 4), .sh (.int 1), .sh (.int 0)] = .ok ⟨.int (ltb 1 false 16), false⟩ [.sh (.int 4), .sh (.int 1), .sh (.int 0)] := by kernel_rfl
theorem ltab_4_1_1 : F_leaf_table [.sh (.int 4), .sh (.int 1), .sh (.int 1)] = .ok ⟨.int (ltb 1 true 16), false⟩ [.sh (.int 4), .sh (.int 1), .sh (.int 1)] := by kernel_rfl
theorem ltab_4_2_0 : F_leaf_table [.sh (.int 4), .sh (.int 2), .sh (.int 0)] = .ok ⟨.int (ltb 2 false 16), false⟩ [.sh (.int 4), .sh (.int 2), .sh (.int 0)] := by kernel_rfl
theorem ltab_4_2_1 : F_leaf_table [.sh (.int 4), .sh (.int 2), .sh (.int 1)] = .ok ⟨.int (ltb 2 true 16), false⟩ [.sh (.int 4), .sh (.int 2), .sh (.int 1)] := by kernel_rfl
theorem ltab_4_3_0 : F_leaf_table [.sh (.int 4), .sh (.int 3), .sh (.int 0)] = .ok ⟨.int (ltb 3 false 16), false⟩ [.sh (.int 4), .sh (.int 3), .sh (.int 0)] := by kernel_rfl
theorem ltab_4_3_1 : F_leaf_table [.sh (.int 4), .sh (.int 3), .sh (.int 1)] = .ok ⟨.int (ltb 3 true 16), false⟩ [.sh (.int 4), .sh (.int 3), .sh (.int 1)] := by kernel_rfl
theorem ltab_5_0_0 : F_leaf_table [.sh (.int 5), .sh (.int 0), .sh (.int 0)] = .ok ⟨.int (ltb 0 false 32), false⟩ [.sh (.int 5), .sh (.int 0), .sh (.int 0)] := by kernel_rfl
theorem ltab_5_0_1 : F_leaf_table [.sh (.int 5), .sh (.int 0), .sh (.int 1)] = .ok ⟨.int (ltb 0 true 32), false⟩ [.sh (.int 5), .sh (.int 0), .sh (.int 1)] := by kernel_rfl
theorem ltab_5_1_0 : F_leaf_table [.sh (.int 5), .sh (.int 1), .sh (.int 0)] = .ok ⟨.int (ltb 1 false 32), false⟩ [.sh (.int 5), .sh (.int 1), .sh (.int 0)] := by kernel_rfl
theorem ltab_5_1_1 : F_leaf_table [.sh (.int 5), .sh (.int 1), .sh (.int 1)] = .ok ⟨.int (ltb 1 true 32), false⟩ [.sh (.int 5), .sh (.int 1), .sh (.int 1)] := by kernel_rfl
theorem ltab_5_2_0 : F_leaf_table [.sh (.int 5), .sh (.int 2), .sh (.int 0)] = .ok ⟨.int (ltb 2 false 32), false⟩ [.sh (.int 5), .sh (.int 2), .sh (.int 0)] := by kernel_rfl
theorem ltab_5_2_1 : F_leaf_table [.sh (.int 5), .sh (.int 2), .sh (.int 1)] = .ok ⟨.int (ltb 2 true 32), false⟩ [.sh (.int 5), .sh (.int 2), .sh (.int 1)] := by kernel_rfl
theorem ltab_5_3_0 : F_leaf_table [.sh (.int 5), .sh (.int 3), .sh (.int 0)] = .ok ⟨.int (ltb 3 false 32), false⟩ [.sh (.int 5), .sh (.int 3), .sh (.int 0)] := by kernel_rfl
theorem ltab_5_3_1 : F_leaf_table [.sh (.int 5), .sh (.int 3), .sh (.int 1)] = .ok ⟨.int (ltb 3 true 32), false⟩ [.sh (.int 5), .sh (.int 3), .sh (.int 1)] := by kernel_rfl
theorem ltab_5_4_0 : F_leaf_table [.sh (.int 5), .sh (.int 4), .sh (.int 0)] = .ok ⟨.int (ltb 4 false 32), false⟩ [.sh (.int 5), .sh (.int 4), .sh (.int 0)] := by kernel_rfl
theorem ltab_5_4_1 : F_leaf_table [.sh (.int 5), .sh (.int 4), .sh (.int 1)] = .ok ⟨.int (ltb 4 true 32), false⟩ [.sh (.int 5), .sh (.int 4), .sh (.int 1)] := by kernel_rfl
theorem ltab (n i : Nat) (b : Bool) (hn : n ≤ 5) (hi : i < n) : F_leaf_table [.sh (.int n), .sh (.int i), .sh (.int (b2i b))] = .ok ⟨.int (tb ((Fm.lf i b).val) (2 ^ n)), false⟩ [.sh (.int n), .sh (.int i), .sh (.int (b2i b))] := by
  match n, i, b, hn, hi with
  | 1, 0, false, _, _ => exact ltab_1_0_0
  | 1, 0, true, _, _ => exact ltab_1_0_1
  | 2, 0, false, _, _ => exact ltab_2_0_0
  | 2, 0, true, _, _ => exact ltab_2_0_1
  | 2, 1, false, _, _ => exact ltab_2_1_0
  | 2, 1, true, _, _ => exact ltab_2_1_1
  | 3, 0, false, _, _ => exact ltab_3_0_0
  | 3, 0, true, _, _ => exact ltab_3_0_1
  | 3, 1, false, _, _ => exact ltab_3_1_0
  | 3, 1, true, _, _ => exact ltab_3_1_1
  | 3, 2, false, _, _ => exact ltab_3_2_0
  | 3, 2, true, _, _ => exact ltab_3_2_1
  | 4, 0, false, _, _ => exact ltab_4_0_0
  | 4, 0, true, _, _ => exact ltab_4_0_1
  | 4, 1, false, _, _ => exact ltab_4_1_0
  | 4, 1, true, _, _ => exact ltab_4_1_1
  | 4, 2, false, _, _ => exact ltab_4_2_0
  | 4, 2, true, _, _ => exact ltab_4_2_1
  | 4, 3, false, _, _ => exact ltab_4_3_0
  | 4, 3, true, _, _ => exact ltab_4_3_1
  | 5, 0, false, _, _ => exact ltab_5_0_0
  | 5, 0, true, _, _ => exact ltab_5_0_1
  | 5, 1, false, _, _ => exact ltab_5_1_0
  | 5, 1, true, _, _ => exact ltab_5_1_1
  | 5, 2, false, _, _ => exact ltab_5_2_0
  | 5, 2, true, _, _ => exact ltab_5_2_1
  | 5, 3, false, _, _ => exact ltab_5_3_0
  | 5, 3, true, _, _ => exact ltab_5_3_1
  | 5, 4, false, _, _ => exact ltab_5_4_0
  | 5, 4, true, _, _ => exact ltab_5_4_1


theorem fEq_op (a : Bool) (w : Str) (hw : PyData.strOk w = true) : fEq (.str (opS a)) (.str w) = sb (decide (opS a = w)) := fEq_str (ok_opS a) hw
theorem ix_a (x a b : D) : fIxA (.tuple [x, a, b]) (.int 0) = some ⟨x, false⟩ ∧ fIxA (.tuple [x, a, b]) (.int 1) = some ⟨a, false⟩ ∧ fIxA (.tuple [x, a, b]) (.int 2) = some ⟨b, false⟩ := ⟨rfl, rfl, rfl⟩
theorem leafEq : fEq (.str "leaf") (.str "leaf") = sb true := by rw [fEq_str ok_leafw ok_leafw]; simp
theorem opLeaf (a : Bool) : fEq (.str (opS a)) (.str "leaf") = sb false := by rw [fEq_op a _ ok_leafw]; cases a <;> rfl
theorem opAnd (a : Bool) : fEq (.str (opS a)) (.str "and") = sb a := by rw [fEq_op a _ okw_and]; cases a <;> rfl
theorem table_ok (n : Nat) (hn : n ≤ 5) : ∀ (L k : Nat) (f : Fm), L < k → f.ok n L → F_table_of k [.sh (.int n), .sh f.d] = .ok ⟨.int (tb f.val (2 ^ n)), false⟩ [.sh (.int n), .sh f.d]
  | L, 0, _, h, _ => absurd h (by omega)
  | L, k + 1, .lf i b, _, hf => by
    have hi : i < n := by cases L <;> exact hf
    refine fnD_rt (eb := [.sh (.int n), .sh (Fm.lf i b).d, .un, .un]) ?_ rfl
    unfold b_table_of
    simp [most, sSeq, sIf, xTest, xOp, xTwo, xO, xC, sNil, sAsg, gV, slOf, xOne, sRet, sRetV, xTup, xLst, xNil, xCons, tOrT, tNotT, tAndT, tTru, xIf, xAnd, xNot, fnD, backP, xCall0, sb, si, xV, xB, Fm.d, ix_a, leafEq, ltab n i b hn hi]
  | 0, k + 1, .nd a l r, _, hf => by cases hf
  | L + 1, k + 1, .nd a l r, hk, hf => by
    have h1 := table_ok n hn L k l (by omega) hf.1
    have h2 := table_ok n hn L k r (by omega) hf.2
    refine fnD_rt (eb := [.sh (.int n), .sh (Fm.nd a l r).d, .sh (.int (tb l.val (2 ^ n))), .sh (.int (tb r.val (2 ^ n)))]) ?_ rfl
    unfold b_table_of
    cases a with
    | true =>
      have e : fAnd (.int (tb l.val (2 ^ n))) (.int (tb r.val (2 ^ n))) = some ⟨.int (tb (Fm.nd true l r).val (2 ^ n)), false⟩ := by
        show some (Rs.mk (.int (Builtin.bitAnd _ _)) false) = _
        rw [bAnd_nat, tb_and]; rfl
      simp [most, sSeq, sIf, xTest, xOp, xTwo, xO, xC, sNil, sAsg, gV, slOf, xOne, sRet, sRetV, xTup, xLst, xNil, xCons, tOrT, tNotT, tAndT, tTru, xIf, xAnd, xNot, fnD, backP, xCall0, sb, si, xV, xB, Fm.d, ix_a, opLeaf, opAnd, sPar, h1, h2, e]
    | false =>
      have e : fOr (.int (tb l.val (2 ^ n))) (.int (tb r.val (2 ^ n))) = some ⟨.int (tb (Fm.nd false l r).val (2 ^ n)), false⟩ := by
        show some (Rs.mk (.int (Builtin.bitOr _ _)) false) = _
        rw [bOr_nat, tb_or]; rfl
      simp [most, sSeq, sIf, xTest, xOp, xTwo, xO, xC, sNil, sAsg, gV, slOf, xOne, sRet, sRetV, xTup, xLst, xNil, xCons, tOrT, tNotT, tAndT, tTru, xIf, xAnd, xNot, fnD, backP, xCall0, sb, si, xV, xB, Fm.d, ix_a, opLeaf, opAnd, sPar, h1, h2, e]
def Fm.lev : Fm → Int
  | .lf _ _ => 0
  | .nd _ l r => 1 + (if r.lev > l.lev then r.lev else l.lev)
def Fm.pl : Fm → Bool
  | .lf _ b => b
  | .nd _ l r => l.pl && r.pl
theorem lev_ok (n : Nat) : ∀ (L k : Nat) (f : Fm), L < k → f.ok n L → F_count_levels k [.sh f.d] = .ok ⟨.int f.lev, false⟩ [.sh f.d]
  | L, 0, _, h, _ => absurd h (by omega)
  | L, k + 1, .lf i b, _, hf => by
    refine fnD_rt (eb := [.sh (Fm.lf i b).d]) ?_ rfl
    unfold b_count_levels
    simp [most, sSeq, sIf, xTest, xOp, xTwo, xO, xC, sNil, sAsg, gV, slOf, xOne, sRet, sRetV, xTup, xLst, xNil, xCons, tOrT, tNotT, tAndT, tTru, xIf, xAnd, xNot, fnD, backP, xCall0, sb, si, xV, xB, Fm.d, ix_a, leafEq, Fm.lev]
  | 0, k + 1, .nd a l r, _, hf => by cases hf
  | L + 1, k + 1, .nd a l r, hk, hf => by
    have h1 := lev_ok n L k l (by omega) hf.1
    have h2 := lev_ok n L k r (by omega) hf.2
    refine fnD_rt (eb := [.sh (Fm.nd a l r).d]) ?_ rfl
    unfold b_count_levels
    simp [most, sSeq, sIf, xTest, xOp, xTwo, xO, xC, sNil, sAsg, gV, slOf, xOne, sRet, sRetV, xTup, xLst, xNil, xCons, tOrT, tNotT, tAndT, tTru, xIf, xAnd, xNot, fnD, backP, xCall0, sb, si, xV, xB, Fm.d, ix_a, opLeaf, h1, h2, fMax2, fII, fAdd, Fm.lev]
theorem llev_ok (n : Nat) : ∀ (L k : Nat) (f : Fm), L < k → f.ok n L → F__law_levels k [.sh f.d] = .ok ⟨.int f.lev, false⟩ [.sh f.d]
  | L, 0, _, h, _ => absurd h (by omega)
  | L, k + 1, .lf i b, _, hf => by
    refine fnD_rt (eb := [.sh (Fm.lf i b).d]) ?_ rfl
    unfold b__law_levels
    simp [most, sSeq, sIf, xTest, xOp, xTwo, xO, xC, sNil, sAsg, gV, slOf, xOne, sRet, sRetV, xTup, xLst, xNil, xCons, tOrT, tNotT, tAndT, tTru, xIf, xAnd, xNot, fnD, backP, xCall0, sb, si, xV, xB, Fm.d, ix_a, leafEq, Fm.lev]
  | 0, k + 1, .nd a l r, _, hf => by cases hf
  | L + 1, k + 1, .nd a l r, hk, hf => by
    have h1 := llev_ok n L k l (by omega) hf.1
    have h2 := llev_ok n L k r (by omega) hf.2
    refine fnD_rt (eb := [.sh (Fm.nd a l r).d]) ?_ rfl
    unfold b__law_levels
    simp [most, sSeq, sIf, xTest, xOp, xTwo, xO, xC, sNil, sAsg, gV, slOf, xOne, sRet, sRetV, xTup, xLst, xNil, xCons, tOrT, tNotT, tAndT, tTru, xIf, xAnd, xNot, fnD, backP, xCall0, sb, si, xV, xB, Fm.d, ix_a, opLeaf, h1, h2, fMax2, fII, fAdd, Fm.lev]
theorem b2i_1 (b : Bool) : fEq (.int (b2i b)) (.int 1) = sb b := by rw [fEq_int]; cases b <;> rfl
theorem pl_ok (n : Nat) : ∀ (L k : Nat) (f : Fm), L < k → f.ok n L → F_all_plain k [.sh f.d] = .ok ⟨.bool f.pl, false⟩ [.sh f.d]
  | L, 0, _, h, _ => absurd h (by omega)
  | L, k + 1, .lf i b, _, hf => by
    refine fnD_rt (eb := [.sh (Fm.lf i b).d]) ?_ rfl
    unfold b_all_plain
    simp [most, sSeq, sIf, xTest, xOp, xTwo, xO, xC, sNil, sAsg, gV, slOf, xOne, sRet, sRetV, xTup, xLst, xNil, xCons, tOrT, tNotT, tAndT, tTru, xIf, xAnd, xNot, fnD, backP, xCall0, sb, si, xV, xB, Fm.d, ix_a, leafEq, b2i_1, Fm.pl]
  | 0, k + 1, .nd a l r, _, hf => by cases hf
  | L + 1, k + 1, .nd a l r, hk, hf => by
    have h1 := pl_ok n L k l (by omega) hf.1
    have h2 := pl_ok n L k r (by omega) hf.2
    refine fnD_rt (eb := [.sh (Fm.nd a l r).d]) ?_ rfl
    unfold b_all_plain
    cases hl : l.pl <;> simp [most, sSeq, sIf, xTest, xOp, xTwo, xO, xC, sNil, sAsg, gV, slOf, xOne, sRet, sRetV, xTup, xLst, xNil, xCons, tOrT, tNotT, tAndT, tTru, xIf, xAnd, xNot, fnD, backP, xCall0, sb, si, xV, xB, Fm.d, ix_a, opLeaf, h1, h2, hl, Fm.pl]
theorem lpl_ok (n : Nat) : ∀ (L k : Nat) (f : Fm), L < k → f.ok n L → F__law_plain k [.sh f.d] = .ok ⟨.bool f.pl, false⟩ [.sh f.d]
  | L, 0, _, h, _ => absurd h (by omega)
  | L, k + 1, .lf i b, _, hf => by
    refine fnD_rt (eb := [.sh (Fm.lf i b).d]) ?_ rfl
    unfold b__law_plain
    simp [most, sSeq, sIf, xTest, xOp, xTwo, xO, xC, sNil, sAsg, gV, slOf, xOne, sRet, sRetV, xTup, xLst, xNil, xCons, tOrT, tNotT, tAndT, tTru, xIf, xAnd, xNot, fnD, backP, xCall0, sb, si, xV, xB, Fm.d, ix_a, leafEq, b2i_1, Fm.pl]
  | 0, k + 1, .nd a l r, _, hf => by cases hf
  | L + 1, k + 1, .nd a l r, hk, hf => by
    have h1 := lpl_ok n L k l (by omega) hf.1
    have h2 := lpl_ok n L k r (by omega) hf.2
    refine fnD_rt (eb := [.sh (Fm.nd a l r).d]) ?_ rfl
    unfold b__law_plain
    cases hl : l.pl <;> simp [most, sSeq, sIf, xTest, xOp, xTwo, xO, xC, sNil, sAsg, gV, slOf, xOne, sRet, sRetV, xTup, xLst, xNil, xCons, tOrT, tNotT, tAndT, tTru, xIf, xAnd, xNot, fnD, backP, xCall0, sb, si, xV, xB, Fm.d, ix_a, opLeaf, h1, h2, hl, Fm.pl]
theorem bit_ok (x i : Nat) : F__law_bit [.sh (.int x), .sh (.int i)] = .ok ⟨.int (x / 2 ^ i % 2 : Nat), false⟩ [.sh (.int x), .sh (.int i)] := by
  refine fnD_rt (eb := [.sh (.int x), .sh (.int i)]) ?_ rfl
  unfold b__law_bit
  simp [most, sSeq, sIf, xTest, xOp, xTwo, xO, xC, sNil, sAsg, gV, slOf, xOne, sRet, sRetV, xTup, xLst, xNil, xCons, tOrT, tNotT, tAndT, tTru, xIf, xAnd, xNot, fnD, backP, xCall0, sb, si, xV, xB, fShr, fII, cShr, fInt, fMod, cMod]
theorem lval_ok (n x : Nat) : ∀ (L k : Nat) (f : Fm), L < k → f.ok n L → F__law_value k [.sh f.d, .sh (.int x)] = .ok ⟨.int (b2i (f.val x)), false⟩ [.sh f.d, .sh (.int x)]
  | L, 0, _, h, _ => absurd h (by omega)
  | L, k + 1, .lf i b, _, hf => by
    refine fnD_rt (eb := [.sh (Fm.lf i b).d, .sh (.int x), .un, .un]) ?_ rfl
    unfold b__law_value
    have ev : (Fm.lf i b).val x = (x / 2 ^ i % 2 == Fm.val.b2n b) := rfl
    have hb := bit_ok x i
    have hz : x / 2 ^ i % 2 < 2 := Nat.mod_lt _ (by decide)
    rw [ev]
    generalize x / 2 ^ i % 2 = z at hb hz
    have e : fEq (.int z) (.int (b2i b)) = sb (z == Fm.val.b2n b) := by
      rw [fEq_int]
      have : z = 0 ∨ z = 1 := by omega
      rcases this with rfl | rfl <;> cases b <;> rfl
    have e2 : ∀ k : Bool, fInt (.bool k) = some ⟨.int (b2i k), false⟩ := fun _ => rfl
    simp [most, sSeq, sIf, xTest, xOp, xTwo, xO, xC, sNil, sAsg, gV, slOf, xOne, sRet, sRetV, xTup, xLst, xNil, xCons, tOrT, tNotT, tAndT, tTru, xIf, xAnd, xNot, fnD, backP, xCall0, sb, si, xV, xB, Fm.d, ix_a, leafEq, hb, e, e2]
  | 0, k + 1, .nd a l r, _, hf => by cases hf
  | L + 1, k + 1, .nd a l r, hk, hf => by
    have h1 := lval_ok n x L k l (by omega) hf.1
    have h2 := lval_ok n x L k r (by omega) hf.2
    refine fnD_rt (eb := [.sh (Fm.nd a l r).d, .sh (.int x), .sh (.int (b2i (l.val x))), .sh (.int (b2i (r.val x)))]) ?_ rfl
    unfold b__law_value
    cases a <;> cases hl : l.val x <;> cases hr : r.val x <;> simp [most, sSeq, sIf, xTest, xOp, xTwo, xO, xC, sNil, sAsg, gV, slOf, xOne, sRet, sRetV, xTup, xLst, xNil, xCons, tOrT, tNotT, tAndT, tTru, xIf, xAnd, xNot, fnD, backP, xCall0, sb, si, xV, xB, Fm.d, ix_a, opLeaf, opAnd, sPar, h1, h2, hl, hr, fMax2, fMin2, fII, Fm.val, b2i]


theorem two_ok (n : Nat) (h : n ≤ 64) : F__law_two [.sh (.int n)] = .ok ⟨.int (2 ^ n : Nat), false⟩ [.sh (.int n)] := by
  refine fnD_rt (eb := [.sh (.int n)]) ?_ rfl
  unfold b__law_two
  refine sRet_of (xOp_ex (r := ⟨.int 1, false⟩) (d := .int n) rfl rfl ?_)
  have h1 : cSh 1 (n : Int) = true := by simp [cSh]; omega
  show (if cSh 1 (n : Int) then si (1 * 2 ^ (n : Int).toNat) else none) = _
  rw [if_pos h1, Int.toNat_natCast, Int.one_mul]
  rfl
theorem floop_idx {gg : Rs → En → Option En} {b : SF} {u : Nat → D} {S : Nat → En} : ∀ (m a : Nat), (∀ j, a ≤ j → j < a + m → ∃ e1, gg ⟨u j, false⟩ (S j) = some e1 ∧ b e1 = .ok .nx (S (j + 1))) → floop gg b ((List.range' a m).map u) (S a) = .ok .nx (S (a + m))
  | 0, a, _ => rfl
  | m + 1, a, h => by
    obtain ⟨e1, h1, h2⟩ := h a (Nat.le_refl _) (by omega)
    have ih := floop_idx m (a + 1) (fun j p q => h j (by omega) (by omega))
    rw [List.range'_succ, List.map_cons]
    unfold floop
    rw [h1]
    simp only [h2, bind_ok]
    rw [show a + (m + 1) = a + 1 + m by omega]
    exact ih
def lastS : Nat → Sl
  | 0 => .un
  | j + 1 => .sh (.int j)
def valsD (p : Nat → Bool) (m : Nat) : List D := (List.range m).map fun x => .int (b2i (p x))
theorem made_ok (p : Nat → Bool) (m : Nat) (hm : m ≤ 32) : F__law_made [.sh (.list (valsD p m))] = .ok ⟨.int (tb p m), false⟩ [.sh (.list (valsD p m))] := by
  refine fnD_rt (eb := [.sh (.list (valsD p m)), .sh (.int (tb p m)), lastS m]) ?_ rfl
  unfold b__law_made
  have hlen : (valsD p m).length = m := by simp [valsD]
  have hs : iseq 0 1 m = (List.range' 0 m).map fun j => .int (j : Int) := by
    unfold iseq
    rw [← List.range_eq_range']
    refine List.map_congr_left fun j _ => ?_
    congr 1
    omega
  refine (seq_nx (e1 := [.sh (.list (valsD p m)), .sh (.int 0), .un]) rfl).trans ?_
  refine (seq_nx (e1 := [.sh (.list (valsD p m)), .sh (.int (tb p m)), lastS m]) ?_).trans rfl
  have hi : iR1 (xCons (xOne fLen (xB 0)) xNil) [.sh (.list (valsD p m)), .sh (.int 0), .un] = .ok ((List.range' 0 m).map fun (j : Nat) => .int (j : Int)) [.sh (.list (valsD p m)), .sh (.int 0), .un] := by
    have := iR1_of (e := [.sh (.list (valsD p m)), .sh (.int 0), .un]) (ga := xCons (xOne fLen (xB 0)) xNil) (e1 := [.sh (.list (valsD p m)), .sh (.int 0), .un]) (j := m) (xCons1 (r := ⟨.int m, false⟩) (xOne_of (d := .list (valsD p m)) rfl (by show some (Rs.mk (.int ((valsD p m).length : Nat)) false) = _; rw [hlen]))) (by simp [near]; omega)
    rw [this, Int.toNat_natCast, hs]
  unfold sFor
  rw [hi, bind_ok]
  have := floop_idx (gg := gV 2) (b := (sAsg (xOp fAdd (.br 1) (xO (xOp fMul (.ex (xOp fIxA (.br 0) (xB 2))) (xO (xCall0 1 F__law_two (xCons (xV 2) xNil)))))) (gV 1))) (u := fun j => .int (j : Int)) (S := fun j => [.sh (.list (valsD p m)), .sh (.int (tb p j)), lastS j]) m 0 fun j _ hj => by
    have hj : j < m := by omega
    refine ⟨[.sh (.list (valsD p m)), .sh (.int (tb p j)), .sh (.int j)], rfl, ?_⟩
    have hv : (valsD p m)[j]? = some (.int (b2i (p j))) := by
      unfold valsD
      rw [List.getElem?_map, List.getElem?_range hj]; rfl
    have hx : fIxA (.list (valsD p m)) (.int j) = some ⟨.int (b2i (p j)), false⟩ := ix_at hv
    have h2 := two_ok j (by omega)
    have hmul : fMul (.int (b2i (p j))) (.int (2 ^ j : Nat)) = some ⟨.int (if p j then (2 ^ j : Nat) else 0), false⟩ := by
      have hc : cMul (b2i (p j)) ((2 ^ j : Nat) : Int) = true := by
        have l1 : (b2i (p j)).natAbs.log2 < 41 := by cases p j <;> decide
        have l2 : (((2 ^ j : Nat) : Int)).natAbs.log2 < 41 := log2_le (k := 41) (by
          rw [Int.natAbs_natCast]
          exact Nat.pow_lt_pow_right (by decide) (by omega)) (by decide)
        simp only [cMul, decide_eq_true_eq]
        omega
      show (if cMul _ _ then si (b2i (p j) * ((2 ^ j : Nat) : Int)) else none) = _
      rw [if_pos hc]
      cases p j
      · show some (Rs.mk (.int (0 * _)) false) = _
        rw [Int.zero_mul]; rfl
      · show some (Rs.mk (.int (1 * _)) false) = _
        rw [Int.one_mul]; rfl
    have t1 : xOp fIxA (.br 0) (xB 2) [.sh (.list (valsD p m)), .sh (.int (tb p j)), .sh (.int j)] = .ok ⟨.int (b2i (p j)), false⟩ [.sh (.list (valsD p m)), .sh (.int (tb p j)), .sh (.int j)] := xOp_br (d0 := .list (valsD p m)) (d := .int j) (d2 := .list (valsD p m)) rfl rfl rfl hx
    have t2 : xCall0 1 F__law_two (xCons (xV 2) xNil) [.sh (.list (valsD p m)), .sh (.int (tb p j)), .sh (.int j)] = .ok ⟨.int (2 ^ j : Nat), false⟩ [.sh (.list (valsD p m)), .sh (.int (tb p j)), .sh (.int j)] := xCall0_of (ds := [.int j]) (n := 1) rfl rfl h2
    have t3 : xOp fMul (.ex (xOp fIxA (.br 0) (xB 2))) (xO (xCall0 1 F__law_two (xCons (xV 2) xNil))) [.sh (.list (valsD p m)), .sh (.int (tb p j)), .sh (.int j)] = .ok ⟨.int (if p j then (2 ^ j : Nat) else 0), false⟩ [.sh (.list (valsD p m)), .sh (.int (tb p j)), .sh (.int j)] := xOp_ex t1 (xO_of t2) hmul
    have t4 : xOp fAdd (.br 1) (xO (xOp fMul (.ex (xOp fIxA (.br 0) (xB 2))) (xO (xCall0 1 F__law_two (xCons (xV 2) xNil))))) [.sh (.list (valsD p m)), .sh (.int (tb p j)), .sh (.int j)] = .ok ⟨.int (tb p (j + 1)), false⟩ [.sh (.list (valsD p m)), .sh (.int (tb p j)), .sh (.int j)] := by
      refine xOp_br (d0 := .int (tb p j)) (d2 := .int (tb p j)) rfl (xO_of t3) rfl ?_
      show some (Rs.mk (.int (_ + _)) false) = _
      have ht : tb p (j + 1) = tb p j + (if p j then 2 ^ j else 0) := rfl
      rw [ht]
      cases p j <;> simp
    exact sAsg_of t4 rfl
  rw [Nat.zero_add] at this
  exact this
theorem lamp_ok (f : Fm) (n : Nat) (hn : n ≤ 5) (hf : f.ok n 4) : F__law_lamp_of [.sh f.d, .sh (.int n)] = .ok ⟨.tuple [.int n, .int (tb f.val (2 ^ n))], false⟩ [.sh f.d, .sh (.int n)] := by
  have h32 : 2 ^ n ≤ 32 := by
    have := Nat.pow_le_pow_right (n := 2) (by decide) hn
    simpa using this
  refine fnD_rt (eb := [.sh f.d, .sh (.int n), .un]) ?_ rfl
  unfold b__law_lamp_of
  have hi : iR1 (xCons (xCall0 1 F__law_two (xCons (xV 1) xNil)) xNil) [.sh f.d, .sh (.int n), .un] = .ok ((List.range (2 ^ n)).map fun (x : Nat) => .int (x : Int)) [.sh f.d, .sh (.int n), .un] := by
    have t2 : xCall0 1 F__law_two (xCons (xV 1) xNil) [.sh f.d, .sh (.int n), .un] = .ok ⟨.int (2 ^ n : Nat), false⟩ [.sh f.d, .sh (.int n), .un] := xCall0_of (ds := [.int n]) (n := 1) rfl rfl (two_ok n (by omega))
    rw [iR1_of (xCons1 t2) (by simp only [near, decide_eq_true_eq, Bool.and_eq_true]; generalize 2 ^ n = z at h32; omega), Int.toNat_natCast]
    unfold iseq
    congr 1
    refine List.map_congr_left fun j _ => ?_
    congr 1
    omega
  have hc : xLc (iR1 (xCons (xCall0 1 F__law_two (xCons (xV 1) xNil)) xNil)) (gV 2) tTrue (xCall0 2 (F__law_value 30) (xCons (xV 0) (xCons (xV 2) xNil))) [2] [.sh f.d, .sh (.int n), .un] = .ok ⟨.list (valsD f.val (2 ^ n)), true⟩ [.sh f.d, .sh (.int n), .un] := by
    refine xLc_all (List.range (2 ^ n)) (fun x => .int (x : Int)) (fun x => .int (b2i (f.val x))) hi rfl (by rw [List.length_range]; exact Nat.le_trans h32 (by decide)) ?_
    intro x _
    exact ⟨[.sh f.d, .sh (.int n), .sh (.int x)], [.sh f.d, .sh (.int n), .sh (.int x)], false, [.sh f.d, .sh (.int n), .sh (.int x)], rfl, rfl, xCall0_of (ds := [f.d, .int x]) (n := 2) rfl rfl (lval_ok n x 4 30 f (by decide) hf), rfl⟩
  have hm := made_ok f.val (2 ^ n) h32
  have t5 : xCall0 1 F__law_made (xCons (xLk none (xLc (iR1 (xCons (xCall0 1 F__law_two (xCons (xV 1) xNil)) xNil)) (gV 2) tTrue (xCall0 2 (F__law_value 30) (xCons (xV 0) (xCons (xV 2) xNil))) [2])) xNil) [.sh f.d, .sh (.int n), .un] = .ok ⟨.int (tb f.val (2 ^ n)), false⟩ [.sh f.d, .sh (.int n), .un] := xCall0_of (ds := [.list (valsD f.val (2 ^ n))]) (n := 1) (xCons1 (xLk_no hc)) rfl hm
  exact sRet_of (xTup_of (xCons_of (r := ⟨.int n, false⟩) rfl (xCons1 t5)) (by show 2 ≤ most; decide))


def Fm.lvs : Fm → Int
  | .lf _ _ => 1
  | .nd _ l r => l.lvs + r.lvs
theorem lvs_le (n : Nat) : ∀ (k : Nat) (f : Fm), f.ok n k → 0 < f.lvs ∧ f.lvs ≤ ((2 ^ k : Nat) : Int)
  | k, .lf i b, _ => by
    have : 0 < 2 ^ k := Nat.two_pow_pos k
    simp only [Fm.lvs]; omega
  | 0, .nd _ _ _, h => by cases h
  | k + 1, .nd a l r, h => by
    have h1 := lvs_le n k l h.1
    have h2 := lvs_le n k r h.2
    simp only [Fm.lvs, Nat.pow_succ]
    omega
theorem cnt_fm (n : Nat) : ∀ (k L : Nat) (f : Fm), f.ok n k → k ≤ L → k ≤ 4 → cnt L f.d n = some f.lvs
  | k, L, .lf i b, h, _, _ => by
    have hi : i < n := by cases k <;> exact h
    have hl : leafOk (.int i) (.int (b2i b)) n = true := by
      cases b <;> simp [most, sSeq, sIf, xTest, xOp, xTwo, xO, xC, sNil, sAsg, gV, slOf, xOne, sRet, sRetV, xTup, xLst, xNil, xCons, tOrT, tNotT, tAndT, tTru, xIf, xAnd, xNot, fnD, backP, xCall0, sb, si, leafOk, b2i, hi] <;> omega
    cases L <;> simp [most, sSeq, sIf, xTest, xOp, xTwo, xO, xC, sNil, sAsg, gV, slOf, xOne, sRet, sRetV, xTup, xLst, xNil, xCons, tOrT, tNotT, tAndT, tTru, xIf, xAnd, xNot, fnD, backP, xCall0, sb, si, cnt, cnt1, Fm.d, hl, Fm.lvs]
  | 0, _, .nd _ _ _, h, _, _ => by cases h
  | k + 1, 0, .nd _ _ _, _, h, _ => absurd h (by omega)
  | k + 1, L + 1, .nd a l r, h, hL, h4 => by
    have h1 := cnt_fm n k L l h.1 (by omega) (by omega)
    have h2 := cnt_fm n k L r h.2 (by omega) (by omega)
    have b1 := lvs_le n k l h.1
    have b2 := lvs_le n k r h.2
    have b3 : ((2 ^ k : Nat) : Int) ≤ 16 := by
      have := Nat.pow_le_pow_right (n := 2) (by decide) (by omega : k ≤ 4)
      omega
    show cnt1 (fun d => cnt L d n) (.tuple [.str (opS a), l.d, r.d]) n = _
    have n1 : ¬ 64 < l.lvs := by omega
    have n2 : ¬ 64 < l.lvs + r.lvs := by omega
    cases a <;> simp [most, sSeq, sIf, xTest, xOp, xTwo, xO, xC, sNil, sAsg, gV, slOf, xOne, sRet, sRetV, xTup, xLst, xNil, xCons, tOrT, tNotT, tAndT, tTru, xIf, xAnd, xNot, fnD, backP, xCall0, sb, si, cnt1, opS, h1, h2, n1, n2, Fm.lvs] <;> (intro z; exact absurd z (by decide))
theorem told_0 (n : Nat) (f : Fm) (h0 : 0 < n) (h5 : n ≤ 5) (hf : f.ok n 4) : F__law_told [.sh (.int 0), .sh (.int n), .sh f.d] = .ok ⟨.tuple [.int n, .int (tb f.val (2 ^ n))], false⟩ [.sh (.int 0), .sh (.int n), .sh f.d] := by
  have hk := chk_ok n f.d (by omega) (by omega) (Fm.okD hf (by decide))
  rw [cnt_fm n 4 12 f hf (by decide) (by decide)] at hk
  simp only [Option.isSome_some, if_true] at hk
  have ht := table_ok n h5 4 30 f (by decide) hf
  simp [most, sSeq, sIf, xTest, xOp, xTwo, xO, xC, sNil, sAsg, gV, slOf, xOne, sRet, sRetV, xTup, xLst, xNil, xCons, tOrT, tNotT, tAndT, tTru, xIf, xAnd, xNot, fnD, backP, xCall0, sb, si, F__law_told, b__law_told, F_lamp_of, b_lamp_of, xV, xB, fEq_int, hk, ht, sExpr, sTry]
theorem told_1 (n : Nat) (f : Fm) (h0 : 0 < n) (h5 : n ≤ 5) (hf : f.ok n 4) : F__law_told [.sh (.int 1), .sh (.int n), .sh f.d] = .ok ⟨.int f.lvs, false⟩ [.sh (.int 1), .sh (.int n), .sh f.d] := by
  have hk := chk_ok n f.d (by omega) (by omega) (Fm.okD hf (by decide))
  have hc := count_ok n 12 30 f.d (by decide) (Fm.okD hf (by decide))
  rw [cnt_fm n 4 12 f hf (by decide) (by decide)] at hk hc
  simp only [Option.isSome_some, if_true] at hk
  have e12 : ((12 : Nat) : Int) = 12 := rfl
  rw [e12] at hc
  simp [most, sSeq, sIf, xTest, xOp, xTwo, xO, xC, sNil, sAsg, gV, slOf, xOne, sRet, sRetV, xTup, xLst, xNil, xCons, tOrT, tNotT, tAndT, tTru, xIf, xAnd, xNot, fnD, backP, xCall0, sb, si, F__law_told, b__law_told, F_leaves_of, b_leaves_of, xV, xB, fEq_int, hk, hc, sExpr, sTry, d_MOST_LEVELS, optI]
theorem told_2 (n : Nat) (f : Fm) (h0 : 0 < n) (h5 : n ≤ 5) (hf : f.ok n 4) : F__law_told [.sh (.int 2), .sh (.int n), .sh f.d] = .ok ⟨.int f.lev, false⟩ [.sh (.int 2), .sh (.int n), .sh f.d] := by
  have hk := chk_ok n f.d (by omega) (by omega) (Fm.okD hf (by decide))
  rw [cnt_fm n 4 12 f hf (by decide) (by decide)] at hk
  simp only [Option.isSome_some, if_true] at hk
  have hl := lev_ok n 4 30 f (by decide) hf
  simp [most, sSeq, sIf, xTest, xOp, xTwo, xO, xC, sNil, sAsg, gV, slOf, xOne, sRet, sRetV, xTup, xLst, xNil, xCons, tOrT, tNotT, tAndT, tTru, xIf, xAnd, xNot, fnD, backP, xCall0, sb, si, F__law_told, b__law_told, F_levels_of, b_levels_of, xV, xB, fEq_int, hk, hl, sExpr, sTry]
theorem told_3 (n : Nat) (f : Fm) (h0 : 0 < n) (h5 : n ≤ 5) (hf : f.ok n 4) : F__law_told [.sh (.int 3), .sh (.int n), .sh f.d] = .ok ⟨.bool f.pl, false⟩ [.sh (.int 3), .sh (.int n), .sh f.d] := by
  have hk := chk_ok n f.d (by omega) (by omega) (Fm.okD hf (by decide))
  rw [cnt_fm n 4 12 f hf (by decide) (by decide)] at hk
  simp only [Option.isSome_some, if_true] at hk
  have hl := pl_ok n 4 30 f (by decide) hf
  simp [most, sSeq, sIf, xTest, xOp, xTwo, xO, xC, sNil, sAsg, gV, slOf, xOne, sRet, sRetV, xTup, xLst, xNil, xCons, tOrT, tNotT, tAndT, tTru, xIf, xAnd, xNot, fnD, backP, xCall0, sb, si, F__law_told, b__law_told, F_is_plain, b_is_plain, xV, xB, fEq_int, hk, hl, sExpr, sTry]
theorem told_4 (n : Nat) (f : Fm) (h0 : 0 < n) (h5 : n ≤ 5) (hf : f.ok n 4) : F__law_told [.sh (.int 4), .sh (.int n), .sh f.d] = .ok ⟨.bool true, false⟩ [.sh (.int 4), .sh (.int n), .sh f.d] := by
  have hk := isf_ok n f.d (by omega) (by omega) (Fm.okD hf (by decide))
  rw [cnt_fm n 4 12 f hf (by decide) (by decide)] at hk
  simp only [Option.isSome_some] at hk
  simp [most, sSeq, sIf, xTest, xOp, xTwo, xO, xC, sNil, sAsg, gV, slOf, xOne, sRet, sRetV, xTup, xLst, xNil, xCons, tOrT, tNotT, tAndT, tTru, xIf, xAnd, xNot, fnD, backP, xCall0, sb, si, F__law_told, b__law_told, xV, xB, fEq_int, hk, sExpr, sTry]


theorem nat_shown {k : Nat} (h : k < 10 ^ 12) : ((PyData.int k).shown).length ≤ 12 := by
  show (Str.ofString (Nat.repr k)).length ≤ 12
  rw [PySem.ofString_length]
  exact (Nat.length_repr_le_iff (n := k) (by decide : 0 < 12)).mpr h
theorem nat_log {k : Nat} (h : k < 10 ^ 12) : (((k : Nat) : Int)).natAbs.log2 < 1920 := by
  refine Nat.lt_of_lt_of_le (log2_le (k := 40) ?_ (by decide)) (by decide)
  rw [Int.natAbs_natCast]
  exact Nat.lt_trans h (by decide)
theorem reprOk_nat {k : Nat} (h : k < 10 ^ 12) : reprOk (.int k) = true := by
  have h1 := nat_shown h
  have h2 := nat_log h
  have h3 : SeqAt.shaped (.int k) = true := by simp [SeqAt.shaped, PyData.canLay0, PyData.depth]
  have h4 : (PyData.int k).showable = true := by unfold PyData.showable; exact decide_eq_true h2
  have h5 : (PyData.int k).hasDict = false := rfl
  have h6 : decide ((PyData.int k).shown.length ≤ most) = true := decide_eq_true (Nat.le_trans h1 (by decide))
  unfold reprOk
  rw [h3, h4, h5, h6]; rfl
theorem reprOk_pair {j k : Nat} (hj : j < 10 ^ 12) (h : k < 10 ^ 12) : reprOk (.tuple [.int j, .int k]) = true := by
  have h1 := nat_shown h
  have h1' := nat_shown hj
  have h2 := nat_log h
  have h2' := nat_log hj
  have h3 : SeqAt.shaped (.tuple [.int j, .int k]) = true := by simp [SeqAt.shaped, PyData.canLay0, PyData.canLayAll0, PyData.depth, PyData.depthAll]
  have h4 : (PyData.tuple [.int j, .int k]).showable = true := by
    unfold PyData.showable PyData.showableAll PyData.showableAll PyData.showableAll PyData.showable
    rw [decide_eq_true h2, decide_eq_true h2']; rfl
  have h5 : (PyData.tuple [.int j, .int k]).hasDict = false := rfl
  have h6 : decide ((PyData.tuple [.int j, .int k]).shown.length ≤ most) = true := by
    refine decide_eq_true ?_
    have := tupleText_len_le (PyData.shownAll [.int j, .int k])
    show (tupleText (PyData.shownAll [.int j, .int k])).length ≤ _
    have e : PyData.shownAll [.int j, .int k] = [(PyData.int j).shown, (PyData.int k).shown] := rfl
    rw [e] at this ⊢
    simp only [List.map_cons, List.map_nil, List.sum_cons, List.sum_nil, List.length_cons, List.length_nil] at this
    have : most = 1000000 := rfl
    omega
  unfold reprOk
  rw [h3, h4, h5, h6]; rfl
theorem reprOk_bool (b : Bool) : reprOk (.bool b) = true := by cases b <;> decide +kernel


theorem strOk_all {x : Str} (h : ∀ c ∈ x.cps.toList, c < 0x110000) : PyData.strOk x = true := by
  unfold PyData.strOk
  rw [Array.all_eq_true']
  intro c m
  exact decide_eq_true (h c (Array.mem_toList_iff.mpr m))
theorem all_strOk {x : Str} (h : PyData.strOk x = true) : ∀ c ∈ x.cps.toList, c < 0x110000 := by
  unfold PyData.strOk at h
  rw [Array.all_eq_true'] at h
  intro c m
  exact of_decide_eq_true (h c (Array.mem_toList_iff.mp m))
theorem strOk_str (s : String) : PyData.strOk (Str.ofString s) = true := by
  apply strOk_all
  rw [Str.ofString_eq_toList]
  intro c m
  simp only [List.mem_map] at m
  obtain ⟨d, _, rfl⟩ := m
  have := d.valid
  rcases this with h | ⟨_, h⟩
  · exact Nat.lt_trans h (by decide)
  · exact h
theorem strOk_app {x y : Str} (hx : PyData.strOk x = true) (hy : PyData.strOk y = true) : PyData.strOk (x ++ y) = true := by
  apply strOk_all
  intro c m
  rw [show (x ++ y).cps = x.cps ++ y.cps from rfl, Array.toList_append] at m
  rcases List.mem_append.mp m with m | m
  · exact all_strOk hx c m
  · exact all_strOk hy c m
theorem strOk_pair (j k : Int) : PyData.strOk (PyData.tuple [.int j, .int k]).shown = true := by
  have e : (PyData.tuple [.int j, .int k]).shown = ("(" : Str) ++ ((Str.ofString (toString j)) ++ (", " : Str) ++ (Str.ofString (toString k))) ++ (Str.ofString ")") := rfl
  rw [e]
  exact strOk_app (strOk_app (strOk_str _) (strOk_app (strOk_app (strOk_str _) (strOk_str _)) (strOk_str _))) (strOk_str _)
theorem fNe_strL (ts : List Str) (h : ∀ t ∈ ts, PyData.strOk t = true) : fNe (.list (ts.map .str)) (.list (ts.map .str)) = sb false := by
  obtain ⟨h1, h2, h3⟩ := strs_lay ts h
  have hs : SeqAt.shaped (.list (ts.map .str)) = true := by simp [SeqAt.shaped, PyData.canLay0, PyData.depth, h1, h2]
  unfold fNe
  rw [hs]
  simp [PyData.eqv, h3]


/-- r may be looked at, its depth is at most m -/
def LD (m : Nat) (r : D) : Prop := r.canLay0 = true ∧ r.depth ≤ m
theorem callD1 {φ : XF} {x x' : Sl} {d r : D} {g : En → Res (List D)} {E : En} (dx : DS x) (dx' : DS x') (h0 : E[0]? = some x) (hg : g E = .ok [d] E) (h : φ [x, .sh d] = .ok ⟨r, false⟩ [x', .sh d]) : xCallD 0 1 φ g E = .ok ⟨r, false⟩ (E.set 0 x') := by
  obtain ⟨cs, a, c, s, _, rfl⟩ := dx
  obtain ⟨cs', a', c', s', _, rfl⟩ := dx'
  have ho : ownL 0 E = some [.list (cs.map .int), .int a, .int c, .int s] := by unfold ownL; rw [h0]; rfl
  unfold xCallD
  rw [ho, hg]
  simp only [Option.isSome_some, if_true, bind_ok, List.length_cons, List.length_nil, Nat.zero_add, ho, List.map_cons, List.map_nil]
  unfold drD at h
  rw [h]
  rfl
theorem backD {x' : Sl} {d : D} {s : Sl} {x : Sl} (dx' : DS x') : backP [true, false] [x, .sh d] [x', .sh d, s] = some [x', .sh d] := by
  obtain ⟨cs', a', c', s', _, rfl⟩ := dx'
  rfl
theorem bent_str (φ : XF) (x : Sl) (s : Str) (hx : DS x) : ∃ r x', DS x' ∧ LD 0 r ∧ fnD (b__law_bent_formula φ) [true, false] 1 [x, .sh (.str s)] = .ok ⟨r, false⟩ [x', .sh (.str s)] := by
  obtain ⟨f, x1, d1, f0, f1, h1⟩ := take_ds (m := 5) hx (by decide) (by decide)
  have hr : ∃ r, LD 0 r ∧ fIxA (.list [.str "and", .str "or", .str "leaf", .str "not", .none]) (.int f) = some ⟨r, false⟩ := by
    have : f = 0 ∨ f = 1 ∨ f = 2 ∨ f = 3 ∨ f = 4 := by omega
    rcases this with rfl | rfl | rfl | rfl | rfl
    · exact ⟨.str "and", ⟨by decide +kernel, Nat.le_refl _⟩, rfl⟩
    · exact ⟨.str "or", ⟨by decide +kernel, Nat.le_refl _⟩, rfl⟩
    · exact ⟨.str "leaf", ⟨by decide +kernel, Nat.le_refl _⟩, rfl⟩
    · exact ⟨.str "not", ⟨by decide +kernel, Nat.le_refl _⟩, rfl⟩
    · exact ⟨.none, ⟨by decide +kernel, Nat.le_refl _⟩, rfl⟩
  obtain ⟨r, hr, hix⟩ := hr
  refine ⟨r, x1, d1, hr, fnD_rt (eb := [x1, .sh (.str s), .un]) ?_ (backD d1)⟩
  have t := h1 0 (xCons (xC (.int 5)) xNil) [x, .sh (.str s), .un] rfl rfl
  have t2 : xOp fIxA (.ex (xLst (xCons (xC (.str "and")) (xCons (xC (.str "or")) (xCons (xC (.str "leaf")) (xCons (xC (.str "not")) (xCons (xC .none) xNil))))))) (xO (xCallD 0 1 F__law_take (xCons (xC (.int 5)) xNil))) [x, .sh (.str s), .un] = .ok ⟨r, false⟩ [x1, .sh (.str s), .un] :=
    xOp_ex (r := ⟨.list [.str "and", .str "or", .str "leaf", .str "not", .none], true⟩) rfl (xO_of t) hix
  exact (seq_nx (e1 := [x, .sh (.str s), .un]) rfl).trans ((seq_nx (e1 := [x, .sh (.str s), .un]) rfl).trans (seq_rt ((if_tt (e1 := [x, .sh (.str s), .un]) rfl).trans (sRet_of t2))))
theorem LD_int (i : Int) : LD 0 (.int i) := ⟨rfl, Nat.le_refl _⟩
theorem bent_int (φ : XF) (x : Sl) (i : Int) (hx : DS x) : ∃ r x', DS x' ∧ LD 0 r ∧ fnD (b__law_bent_formula φ) [true, false] 1 [x, .sh (.int i)] = .ok ⟨r, false⟩ [x', .sh (.int i)] := by
  obtain ⟨f, x1, d1, f0, f1, h1⟩ := take_ds (m := 6) hx (by decide) (by decide)
  have hr : ∃ r, LD 0 r ∧ fIxA (.list [.int 0, .int 1, .int (i + 1), .int (i - 1), .bool true, .none]) (.int f) = some ⟨r, false⟩ := by
    have : f = 0 ∨ f = 1 ∨ f = 2 ∨ f = 3 ∨ f = 4 ∨ f = 5 := by omega
    rcases this with rfl | rfl | rfl | rfl | rfl | rfl
    · exact ⟨_, LD_int _, rfl⟩
    · exact ⟨_, LD_int _, rfl⟩
    · exact ⟨_, LD_int _, rfl⟩
    · exact ⟨_, LD_int _, rfl⟩
    · exact ⟨.bool true, ⟨rfl, Nat.le_refl _⟩, rfl⟩
    · exact ⟨.none, ⟨rfl, Nat.le_refl _⟩, rfl⟩
  obtain ⟨r, hr, hix⟩ := hr
  refine ⟨r, x1, d1, hr, fnD_rt (eb := [x1, .sh (.int i), .un]) ?_ (backD d1)⟩
  have t := h1 0 (xCons (xC (.int 6)) xNil) [x, .sh (.int i), .un] rfl rfl
  have t2 : xOp fIxA (.ex (xLst (xCons (xC (.int 0)) (xCons (xC (.int 1)) (xCons (xOp fAdd (.br 1) (xO (xC (.int 1)))) (xCons (xOp fSub (.br 1) (xO (xC (.int 1)))) (xCons (xC (.bool true)) (xCons (xC .none) xNil)))))))) (xO (xCallD 0 1 F__law_take (xCons (xC (.int 6)) xNil))) [x, .sh (.int i), .un] = .ok ⟨r, false⟩ [x1, .sh (.int i), .un] :=
    xOp_ex (r := ⟨.list [.int 0, .int 1, .int (i + 1), .int (i - 1), .bool true, .none], true⟩) rfl (xO_of t) hix
  exact (seq_nx (e1 := [x, .sh (.int i), .un]) rfl).trans ((seq_nx (e1 := [x, .sh (.int i), .un]) rfl).trans ((seq_nx (e1 := [x, .sh (.int i), .un]) rfl).trans (sRet_of t2)))
theorem LD_tup {m : Nat} {ds : List D} (h : ∀ d ∈ ds, LD m d) : LD (m + 1) (.tuple ds) ∧ LD (m + 1) (.list ds) := by
  have key : PyData.canLayAll0 ds = true ∧ PyData.depthAll ds ≤ m := by
    induction ds with
    | nil => exact ⟨rfl, Nat.zero_le _⟩
    | cons d ds ih =>
      obtain ⟨h1, h2⟩ := ih fun d z => h d (List.mem_cons_of_mem _ z)
      obtain ⟨h3, h4⟩ := h d List.mem_cons_self
      simp only [PyData.canLayAll0, PyData.depthAll, h1, h3, Bool.and_true, true_and]
      omega
  constructor
  · exact ⟨by simp only [PyData.canLay0]; exact key.1, by simp only [PyData.depth]; omega⟩
  · exact ⟨by simp only [PyData.canLay0]; exact key.1, by simp only [PyData.depth]; omega⟩
theorem LD.up {m k : Nat} {d : D} (h : LD m d) (hk : m ≤ k) : LD k d := ⟨h.1, Nat.le_trans h.2 hk⟩
theorem bent_tup (φ : XF) (x : Sl) (m : Nat) (a b c : D) (hx : DS x) (ha : LD m a) (hb : LD m b) (hc : LD m c)
    (hφ : ∀ d, d = a ∨ d = b ∨ d = c → ∀ x, DS x → ∃ r x', DS x' ∧ LD m r ∧ φ [x, .sh d] = .ok ⟨r, false⟩ [x', .sh d]) : ∃ r x', DS x' ∧ LD (m + 1) r ∧ fnD (b__law_bent_formula φ) [true, false] 1 [x, .sh (.tuple [a, b, c])] = .ok ⟨r, false⟩ [x', .sh (.tuple [a, b, c])] := by
  obtain ⟨q, x1, d1, q0, q1, h1⟩ := take_ds (m := 4) hx (by decide) (by decide)
  have t1 : xTest (xOp fGt (.ex (xCallD 0 1 F__law_take (xCons (xC (.int 4)) xNil))) (xO (xC (.int 0)))) [x, .sh (.tuple [a, b, c]), .un] = .ok (decide (q > 0)) [x1, .sh (.tuple [a, b, c]), .un] :=
    xTest_of (fr := false) (xOp_ex (r := ⟨.int q, false⟩) (d := .int 0) (h1 0 _ _ rfl rfl) rfl rfl)
  by_cases hq : q > 0
  · obtain ⟨p, x2, d2, p0, p1, h2⟩ := take_ds (m := 3) d1 (by decide) (by decide)
    have t2 : sAsg (xCallD 0 1 F__law_take (xCons (xOne fLen (xB 1)) xNil)) (gV 2) [x1, .sh (.tuple [a, b, c]), .un] = .ok .nx [x2, .sh (.tuple [a, b, c]), .sh (.int p)] := sAsg_of (h2 0 _ _ rfl rfl) rfl
    have fin : ∀ (z : D) (pre suf : List D) (r : D) (x3 : Sl), xSlc (.br 1) pNo (pAt (xB 2)) [x2, .sh (.tuple [a, b, c]), .sh (.int p)] = .ok ⟨.tuple pre, false⟩ [x2, .sh (.tuple [a, b, c]), .sh (.int p)] → xOp fIxA (.br 1) (xB 2) [x2, .sh (.tuple [a, b, c]), .sh (.int p)] = .ok ⟨z, false⟩ [x2, .sh (.tuple [a, b, c]), .sh (.int p)] →
        xSlc (.br 1) (pAt (xO (xOp fAdd (.br 2) (xO (xC (.int 1)))))) pNo [x3, .sh (.tuple [a, b, c]), .sh (.int p)] = .ok ⟨.tuple suf, false⟩ [x3, .sh (.tuple [a, b, c]), .sh (.int p)] → DS x3 → φ [x2, .sh z] = .ok ⟨r, false⟩ [x3, .sh z] → fAdd (.tuple pre) (.tuple [r]) = some ⟨.tuple (pre ++ [r]), false⟩ → fAdd (.tuple (pre ++ [r])) (.tuple suf) = some ⟨.tuple (pre ++ [r] ++ suf), false⟩ →
        fnD (b__law_bent_formula φ) [true, false] 1 [x, .sh (.tuple [a, b, c])] = .ok ⟨.tuple (pre ++ [r] ++ suf), false⟩ [x3, .sh (.tuple [a, b, c])] := by
      intro z pre suf r x3 s1 s2 s3 d3 s4 s5 s6
      refine fnD_rt (eb := [x3, .sh (.tuple [a, b, c]), .sh (.int p)]) ?_ (backD d3)
      have u := callD1 (φ := φ) (g := xCons (xOp fIxA (.br 1) (xB 2)) xNil) d2 d3 (E := [x2, .sh (.tuple [a, b, c]), .sh (.int p)]) rfl (xCons1 s2) s4
      have u2 := xTup_of (xCons1 u) (by show 1 ≤ most; decide)
      refine seq_rt ((if_tt (e1 := [x1, .sh (.tuple [a, b, c]), .un]) ?_).trans ((seq_nx t2).trans (sRet_of (xOp_ex (xOp_ex s1 (xO_of u2) s5) (xO_of s3) s6))))
      have : tAndT (xTest (xOp fGt (.ex (xOne fLen (xB 1))) (xO (xC (.int 0))))) (xTest (xOp fGt (.ex (xCallD 0 1 F__law_take (xCons (xC (.int 4)) xNil))) (xO (xC (.int 0))))) [x, .sh (.tuple [a, b, c]), .un] = .ok (decide (q > 0)) [x1, .sh (.tuple [a, b, c]), .un] := t1
      rw [decide_eq_true hq] at this
      exact this
    have : p = 0 ∨ p = 1 ∨ p = 2 := by omega
    rcases this with rfl | rfl | rfl
    · obtain ⟨r, x3, d3, hr, h3⟩ := hφ a (.inl rfl) x2 d2
      exact ⟨_, x3, d3, (LD_tup (by intro d md; simp at md; rcases md with rfl | rfl | rfl <;> assumption)).1, fin a [] [b, c] r x3 rfl rfl rfl d3 h3 rfl rfl⟩
    · obtain ⟨r, x3, d3, hr, h3⟩ := hφ b (.inr (.inl rfl)) x2 d2
      exact ⟨_, x3, d3, (LD_tup (by intro d md; simp at md; rcases md with rfl | rfl | rfl <;> assumption)).1, fin b [a] [c] r x3 rfl rfl rfl d3 h3 rfl rfl⟩
    · obtain ⟨r, x3, d3, hr, h3⟩ := hφ c (.inr (.inr rfl)) x2 d2
      exact ⟨_, x3, d3, (LD_tup (by intro d md; simp at md; rcases md with rfl | rfl | rfl <;> assumption)).1, fin c [a, b] [] r x3 rfl rfl rfl d3 h3 rfl rfl⟩
  · obtain ⟨p, x2, d2, p0, p1, h2⟩ := take_ds (m := 8) d1 (by decide) (by decide)
    have hr : ∃ r, LD (m + 1) r ∧ fIxA (.list [.list [a, b, c], .tuple [a, b, c, .int 0], .tuple [a, b], .tuple [c, b, a], .none, .tuple [], .tuple [.str "leaf", .int 0, .int 1], .tuple [.str "leaf", .int 4, .int 0]]) (.int p) = some ⟨r, false⟩ := by
      have l0 : LD m (.int 0) := (LD_int 0).up (Nat.zero_le _)
      have l1 : LD m (.int 1) := (LD_int 1).up (Nat.zero_le _)
      have l4 : LD m (.int 4) := (LD_int 4).up (Nat.zero_le _)
      have ls : LD m (.str "leaf") := ⟨by decide +kernel, Nat.zero_le _⟩
      have : p = 0 ∨ p = 1 ∨ p = 2 ∨ p = 3 ∨ p = 4 ∨ p = 5 ∨ p = 6 ∨ p = 7 := by omega
      rcases this with rfl | rfl | rfl | rfl | rfl | rfl | rfl | rfl
      · exact ⟨_, (LD_tup (by intro d md; simp at md; rcases md with rfl | rfl | rfl <;> assumption)).2, rfl⟩
      · exact ⟨_, (LD_tup (by intro d md; simp at md; rcases md with rfl | rfl | rfl | rfl <;> assumption)).1, rfl⟩
      · exact ⟨_, (LD_tup (by intro d md; simp at md; rcases md with rfl | rfl <;> assumption)).1, rfl⟩
      · exact ⟨_, (LD_tup (by intro d md; simp at md; rcases md with rfl | rfl | rfl <;> assumption)).1, rfl⟩
      · exact ⟨.none, ⟨rfl, Nat.zero_le _⟩, rfl⟩
      · exact ⟨_, (LD_tup (by intro d md; cases md)).1, rfl⟩
      · exact ⟨_, (LD_tup (by intro d md; simp at md; rcases md with rfl | rfl | rfl <;> assumption)).1, rfl⟩
      · exact ⟨_, (LD_tup (by intro d md; simp at md; rcases md with rfl | rfl | rfl <;> assumption)).1, rfl⟩
    obtain ⟨r, hr, hix⟩ := hr
    refine ⟨r, x2, d2, hr, fnD_rt (eb := [x2, .sh (.tuple [a, b, c]), .un]) ?_ (backD d2)⟩
    have t := h2 0 (xCons (xC (.int 8)) xNil) [x1, .sh (.tuple [a, b, c]), .un] rfl rfl
    refine (seq_nx (e1 := [x1, .sh (.tuple [a, b, c]), .un]) ?_).trans (seq_rt ((if_tt (e1 := [x1, .sh (.tuple [a, b, c]), .un]) rfl).trans (sRet_of (xOp_ex (r := ⟨.list [.list [a, b, c], .tuple [a, b, c, .int 0], .tuple [a, b], .tuple [c, b, a], .none, .tuple [], .tuple [.str "leaf", .int 0, .int 1], .tuple [.str "leaf", .int 4, .int 0]], true⟩) rfl (xO_of t) hix))))
    refine (if_ff (e1 := [x1, .sh (.tuple [a, b, c]), .un]) ?_).trans rfl
    have : tAndT (xTest (xOp fGt (.ex (xOne fLen (xB 1))) (xO (xC (.int 0))))) (xTest (xOp fGt (.ex (xCallD 0 1 F__law_take (xCons (xC (.int 4)) xNil))) (xO (xC (.int 0))))) [x, .sh (.tuple [a, b, c]), .un] = .ok (decide (q > 0)) [x1, .sh (.tuple [a, b, c]), .un] := t1
    rw [decide_eq_false hq] at this
    exact this
theorem bent_ok (n : Nat) : ∀ (j k : Nat) (f : Fm) (x : Sl), j + 1 < k → f.ok n j → DS x → ∃ r x', DS x' ∧ LD (j + 1) r ∧ F__law_bent_formula k [x, .sh f.d] = .ok ⟨r, false⟩ [x', .sh f.d]
  | j, 0, _, _, h, _, _ => absurd h (by omega)
  | j, 1, _, _, h, _, _ => absurd h (by omega)
  | j, k + 2, .lf i b, x, h, hf, hx => by
    have hs : LD 0 (.str "leaf") := ⟨by decide +kernel, Nat.zero_le _⟩
    obtain ⟨r, x', d', hr, h'⟩ := bent_tup (F__law_bent_formula (k + 1)) x 0 (.str "leaf") (.int i) (.int (b2i b)) hx hs (LD_int _) (LD_int _) (by
      rintro d (rfl | rfl | rfl) x hx
      · exact bent_str _ x _ hx
      · exact bent_int _ x _ hx
      · exact bent_int _ x _ hx)
    exact ⟨r, x', d', hr.up (by omega), h'⟩
  | 0, _ + 2, .nd _ _ _, _, _, hf, _ => by cases hf
  | j + 1, k + 2, .nd a l r, x, h, hf, hx => by
    have hl := l.lay n j hf.1
    have hr := r.lay n j hf.2
    obtain ⟨r, x', d', hr, h'⟩ := bent_tup (F__law_bent_formula (k + 1)) x (j + 1) (.str (opS a)) l.d r.d hx ⟨by simp [PyData.canLay0, ok_opS], Nat.zero_le _⟩ hl hr (by
      rintro d (rfl | rfl | rfl) x hx
      · obtain ⟨r, x', d', hr, h'⟩ := bent_str (F__law_bent_formula k) x (opS a) hx
        exact ⟨r, x', d', hr.up (Nat.zero_le _), h'⟩
      · exact bent_ok n j (k + 1) l x (by omega) hf.1 hx
      · exact bent_ok n j (k + 1) r x (by omega) hf.2 hx)
    exact ⟨r, x', d', hr, h'⟩


/-! ### the law's turns -/
def b2S : SF := (sSeq (sAsg (xOp fGt (.ex (xCall0 3 (F__law_count 30) (xCons (xV 6) (xCons (xV 3) (xCons (xC (.int 12)) xNil))))) (xO (xC (.int 0)))) (gV 7))
 (sSeq (sIf (tNotT (tTru (xO (xCall0 2 F__law_says (xCons (xCall0 2 F_is_formula (xCons (xV 3) (xCons (xV 6) xNil))) (xCons (xV 7) xNil))))))
 (sRet (xC (.bool false)))
 sNil)
 (sIf (tAndT (tNotT (tTru (xB 7))) (xTest (xOp fNe (.ex (xLk none (xLc (iR1 (xCons (xC (.int 4)) xNil)) (gV 12) tTrue (xCall0 3 F__law_told (xCons (xV 12) (xCons (xV 3) (xCons (xV 6) xNil)))) [12]))) (xO (xOp fMul (.ex (xLst (xCons (xC (.str "<malformed>")) xNil))) (xO (xC (.int 4))))))))
 (sRet (xC (.bool false)))
 sNil)))
theorem b2_ok (x s2 s4 s5 s7 : Sl) (n : Nat) (v : D) (h0 : 0 < n) (h5 : n ≤ 5) (hv : okD v) : ∃ s7', b2S [.un, x, s2, .sh (.int n), s4, s5, .sh v, s7, .un, .un, .un, .un, .un, .un] = .ok .nx [.un, x, s2, .sh (.int n), s4, s5, .sh v, s7', .un, .un, .un, .un, .un, .un] := by
  have hc := lcount_ok n 12 30 v (by decide) hv
  have hi := isf_ok n v (by omega) (by omega) hv
  have hg : decide (lcnt 12 v n > 0) = (cnt 12 v n).isSome := by
    unfold lcnt
    cases h : cnt 12 v n with
    | none => rfl
    | some y =>
      have := (cnt_pos n 12 v y h).1
      simpa using this
  have t1 : xOp fGt (.ex (xCall0 3 (F__law_count 30) (xCons (xV 6) (xCons (xV 3) (xCons (xC (.int 12)) xNil))))) (xO (xC (.int 0))) [.un, x, s2, .sh (.int n), s4, s5, .sh v, s7, .un, .un, .un, .un, .un, .un] = .ok ⟨.bool (cnt 12 v n).isSome, false⟩ [.un, x, s2, .sh (.int n), s4, s5, .sh v, s7, .un, .un, .un, .un, .un, .un] := by
    refine xOp_ex (r := ⟨.int (lcnt 12 v n), false⟩) (d := .int 0) (xCall0_of (ds := [v, .int n, .int 12]) (n := 3) rfl rfl hc) rfl ?_
    rw [← hg]; rfl
  refine ⟨.sh (.bool (cnt 12 v n).isSome), ?_⟩
  refine (seq_nx (e1 := [.un, x, s2, .sh (.int n), s4, s5, .sh v, .sh (.bool (cnt 12 v n).isSome), .un, .un, .un, .un, .un, .un]) (sAsg_of t1 rfl)).trans ?_
  have t2 : xCall0 2 F_is_formula (xCons (xV 3) (xCons (xV 6) xNil)) [.un, x, s2, .sh (.int n), s4, s5, .sh v, .sh (.bool (cnt 12 v n).isSome), .un, .un, .un, .un, .un, .un] = .ok ⟨.bool (cnt 12 v n).isSome, false⟩ [.un, x, s2, .sh (.int n), s4, s5, .sh v, .sh (.bool (cnt 12 v n).isSome), .un, .un, .un, .un, .un, .un] := xCall0_of (ds := [.int n, v]) (n := 2) rfl rfl hi
  have t3 : xCall0 2 F__law_says (xCons (xCall0 2 F_is_formula (xCons (xV 3) (xCons (xV 6) xNil))) (xCons (xV 7) xNil)) [.un, x, s2, .sh (.int n), s4, s5, .sh v, .sh (.bool (cnt 12 v n).isSome), .un, .un, .un, .un, .un, .un] = .ok ⟨.bool true, false⟩ [.un, x, s2, .sh (.int n), s4, s5, .sh v, .sh (.bool (cnt 12 v n).isSome), .un, .un, .un, .un, .un, .un] :=
    xCall0_of (ds := [.bool (cnt 12 v n).isSome, .bool (cnt 12 v n).isSome]) (n := 2) (xCons_of t2 rfl) rfl (says_ok _ _ rfl)
  refine (seq_nx (e1 := [.un, x, s2, .sh (.int n), s4, s5, .sh v, .sh (.bool (cnt 12 v n).isSome), .un, .un, .un, .un, .un, .un]) ((if_ff (tNotT_of (b := true) (tTru_of (xO_of t3) rfl))).trans rfl)).trans ?_
  refine (if_ff (e1 := [.un, x, s2, .sh (.int n), s4, s5, .sh v, .sh (.bool (cnt 12 v n).isSome), .un, .un, .un, .un, .un, .un]) ?_).trans rfl
  cases hs : cnt 12 v n with
  | some y => rfl
  | none =>
    have u1 : xLc (iR1 (xCons (xC (.int 4)) xNil)) (gV 12) tTrue (xCall0 3 F__law_told (xCons (xV 12) (xCons (xV 3) (xCons (xV 6) xNil)))) [12] [.un, x, s2, .sh (.int n), s4, s5, .sh v, .sh (.bool false), .un, .un, .un, .un, .un, .un] = .ok ⟨.list ((List.range 4).map fun _ => .str "<malformed>"), true⟩ [.un, x, s2, .sh (.int n), s4, s5, .sh v, .sh (.bool false), .un, .un, .un, .un, .un, .un] := by
      refine xLc_all (List.range 4) (fun w => .int (w : Int)) (fun _ => .str "<malformed>") rfl rfl (by show 4 ≤ most; decide) ?_
      intro w hw
      have hw : w < 4 := List.mem_range.mp hw
      have := told_bad w n v (by omega) (by omega) hv hs (by omega)
      exact ⟨[.un, x, s2, .sh (.int n), s4, s5, .sh v, .sh (.bool false), .un, .un, .un, .un, .sh (.int w), .un], [.un, x, s2, .sh (.int n), s4, s5, .sh v, .sh (.bool false), .un, .un, .un, .un, .sh (.int w), .un], false, [.un, x, s2, .sh (.int n), s4, s5, .sh v, .sh (.bool false), .un, .un, .un, .un, .sh (.int w), .un], rfl, rfl, xCall0_of (ds := [.int w, .int n, v]) (n := 3) rfl rfl this, rfl⟩
    have u2 := fNe_strL (List.replicate 4 ("<malformed>" : Str)) (fun t m => by rw [List.eq_of_mem_replicate m]; exact strOk_str _)
    have u3 : xTest (xOp fNe (.ex (xLk none (xLc (iR1 (xCons (xC (.int 4)) xNil)) (gV 12) tTrue (xCall0 3 F__law_told (xCons (xV 12) (xCons (xV 3) (xCons (xV 6) xNil)))) [12]))) (xO (xOp fMul (.ex (xLst (xCons (xC (.str "<malformed>")) xNil))) (xO (xC (.int 4)))))) [.un, x, s2, .sh (.int n), s4, s5, .sh v, .sh (.bool false), .un, .un, .un, .un, .un, .un] = .ok false [.un, x, s2, .sh (.int n), s4, s5, .sh v, .sh (.bool false), .un, .un, .un, .un, .un, .un] :=
      xTest_of (fr := false) (xOp_ex (d := .list ((List.replicate 4 ("<malformed>" : Str)).map .str)) (xLk_no u1) rfl u2)
    show (tAndT _ _ _) = _
    exact u3


theorem callDi {φ : XF} {x x' : Sl} {ds : List D} {i m : Nat} {r : D} {g : En → Res (List D)} {E rest : En} (dx : DS x) (dx' : DS x') (h0 : E[i]? = some x) (hg : g E = .ok ds E) (hm : ds.length = m) (h : φ (x :: ds.map .sh) = .ok ⟨r, false⟩ (x' :: rest)) : xCallD i m φ g E = .ok ⟨r, false⟩ (E.set i x') := by
  obtain ⟨cs, a, c, s, _, rfl⟩ := dx
  obtain ⟨cs', a', c', s', _, rfl⟩ := dx'
  have ho : ownL i E = some [.list (cs.map .int), .int a, .int c, .int s] := by unfold ownL; rw [h0]; rfl
  unfold xCallD
  rw [ho, hg]
  simp only [Option.isSome_some, if_true, bind_ok, hm, ho]
  unfold drD at h
  rw [h]
  rfl
def dueV (f : Fm) (n : Nat) : List D := [.tuple [.int n, .int (tb f.val (2 ^ n))], .int f.lvs, .int f.lev, .bool f.pl, .bool true]
theorem lev_le (n : Nat) : ∀ (k : Nat) (f : Fm), f.ok n k → 0 ≤ f.lev ∧ f.lev ≤ k
  | k, .lf i b, _ => by simp only [Fm.lev]; omega
  | 0, .nd _ _ _, h => by cases h
  | k + 1, .nd a l r, h => by
    have h1 := lev_le n k l h.1
    have h2 := lev_le n k r h.2
    simp only [Fm.lev]
    split <;> omega
theorem due_repr (f : Fm) (n : Nat) (h5 : n ≤ 5) (hf : f.ok n 4) : ∀ d ∈ dueV f n, reprOk d = true ∧ PyData.strOk d.shown = true := by
  have h32 : 2 ^ n ≤ 32 := by
    have := Nat.pow_le_pow_right (n := 2) (by decide) h5
    simpa using this
  have ht : tb f.val (2 ^ n) < 10 ^ 12 := Nat.lt_of_lt_of_le (tb_lt f.val (2 ^ n)) (Nat.le_trans (Nat.pow_le_pow_right (by decide) h32) (by decide))
  have h1 := lvs_le n 4 f hf
  have h2 := lev_le n 4 f hf
  have hi : ∀ i : Int, 0 ≤ i → i ≤ 16 → reprOk (.int i) = true := by
    intro i a b
    have := reprOk_nat (k := i.toNat) (by omega)
    rwa [show ((i.toNat : Nat) : Int) = i by omega] at this
  have hs : ∀ i : Int, PyData.strOk (PyData.int i).shown = true := fun i => strOk_str _
  intro d m
  simp only [dueV, List.mem_cons, List.not_mem_nil, or_false] at m
  rcases m with rfl | rfl | rfl | rfl | rfl
  · exact ⟨reprOk_pair (by omega) ht, strOk_pair _ _⟩
  · exact ⟨hi _ (by omega) (by omega), hs _⟩
  · exact ⟨hi _ (by omega) (by omega), hs _⟩
  · exact ⟨reprOk_bool _, by cases f.pl <;> exact strOk_str _⟩
  · exact ⟨reprOk_bool _, strOk_str _⟩
theorem told_all (f : Fm) (n : Nat) (h0 : 0 < n) (h5 : n ≤ 5) (hf : f.ok n 4) (w : Nat) (hw : w < 5) : ∃ d, (dueV f n)[w]? = some d ∧ F__law_told [.sh (.int w), .sh (.int n), .sh f.d] = .ok ⟨d, false⟩ [.sh (.int w), .sh (.int n), .sh f.d] := by
  match w, hw with
  | 0, _ => exact ⟨_, rfl, told_0 n f h0 h5 hf⟩
  | 1, _ => exact ⟨_, rfl, told_1 n f h0 h5 hf⟩
  | 2, _ => exact ⟨_, rfl, told_2 n f h0 h5 hf⟩
  | 3, _ => exact ⟨_, rfl, told_3 n f h0 h5 hf⟩
  | 4, _ => exact ⟨_, rfl, told_4 n f h0 h5 hf⟩
def t3F : XF := xLst (xCons (xCall0 2 F__law_lamp_of (xCons (xV 4) (xCons (xV 3) xNil))) (xCons (xCall0 3 (F__law_count 30) (xCons (xV 4) (xCons (xV 3) (xCons (xC (.int 12)) xNil)))) (xCons (xCall0 1 (F__law_levels 30) (xCons (xV 4) xNil)) (xCons (xCall0 1 (F__law_plain 30) (xCons (xV 4) xNil)) (xCons (xC (.bool true)) xNil)))))
theorem xLst_of {g : En → Res (List D)} {e e1 : En} {ds : List D} (h : g e = .ok ds e1) (hl : ds.length ≤ most) : xLst g e = .ok ⟨.list ds, true⟩ e1 := by
  show (g e).bind _ = _
  rw [h, bind_ok, if_pos hl]
theorem t3_ok (x s2 s5 s6 s7 : Sl) (n : Nat) (f : Fm) (h0 : 0 < n) (h5 : n ≤ 5) (hf : f.ok n 4) : t3F [.un, x, s2, .sh (.int n), .sh f.d, s5, s6, s7, .un, .un, .un, .un, .un, .un] = .ok ⟨.list (dueV f n), true⟩ [.un, x, s2, .sh (.int n), .sh f.d, s5, s6, s7, .un, .un, .un, .un, .un, .un] := by
  have a1 : xCall0 2 F__law_lamp_of (xCons (xV 4) (xCons (xV 3) xNil)) [.un, x, s2, .sh (.int n), .sh f.d, s5, s6, s7, .un, .un, .un, .un, .un, .un] = .ok ⟨.tuple [.int n, .int (tb f.val (2 ^ n))], false⟩ [.un, x, s2, .sh (.int n), .sh f.d, s5, s6, s7, .un, .un, .un, .un, .un, .un] := xCall0_of (ds := [f.d, .int n]) (n := 2) rfl rfl (lamp_ok f n h5 hf)
  have hc := lcount_ok n 12 30 f.d (by decide) (Fm.okD hf (by decide))
  have e2 : lcnt 12 f.d n = f.lvs := by unfold lcnt; rw [cnt_fm n 4 12 f hf (by decide) (by decide)]; rfl
  rw [e2] at hc
  have a2 : xCall0 3 (F__law_count 30) (xCons (xV 4) (xCons (xV 3) (xCons (xC (.int 12)) xNil))) [.un, x, s2, .sh (.int n), .sh f.d, s5, s6, s7, .un, .un, .un, .un, .un, .un] = .ok ⟨.int f.lvs, false⟩ [.un, x, s2, .sh (.int n), .sh f.d, s5, s6, s7, .un, .un, .un, .un, .un, .un] := xCall0_of (ds := [f.d, .int n, .int 12]) (n := 3) rfl rfl hc
  have a3 : xCall0 1 (F__law_levels 30) (xCons (xV 4) xNil) [.un, x, s2, .sh (.int n), .sh f.d, s5, s6, s7, .un, .un, .un, .un, .un, .un] = .ok ⟨.int f.lev, false⟩ [.un, x, s2, .sh (.int n), .sh f.d, s5, s6, s7, .un, .un, .un, .un, .un, .un] := xCall0_of (ds := [f.d]) (n := 1) rfl rfl (llev_ok n 4 30 f (by decide) hf)
  have a4 : xCall0 1 (F__law_plain 30) (xCons (xV 4) xNil) [.un, x, s2, .sh (.int n), .sh f.d, s5, s6, s7, .un, .un, .un, .un, .un, .un] = .ok ⟨.bool f.pl, false⟩ [.un, x, s2, .sh (.int n), .sh f.d, s5, s6, s7, .un, .un, .un, .un, .un, .un] := xCall0_of (ds := [f.d]) (n := 1) rfl rfl (lpl_ok n 4 30 f (by decide) hf)
  exact xLst_of (xCons_of a1 (xCons_of a2 (xCons_of a3 (xCons_of a4 (xCons1 (r := ⟨.bool true, false⟩) rfl))))) (by show 5 ≤ most; decide)
def t4S : SF := sIf (xTest (xOp fNe (.ex (xLk none (xLc (iR1 (xCons (xC (.int 5)) xNil)) (gV 12) tTrue (xOne fRepr (xO (xCall0 3 F__law_told (xCons (xV 12) (xCons (xV 3) (xCons (xV 4) xNil)))))) [12]))) (xO (xLk (some 5) (xLc (iN 5) (gV 13) tTrue (xOne fRepr (xB 13)) [13])))))
 (sRet (xC (.bool false)))
 sNil
theorem t4_ok (x s2 s6 s7 : Sl) (n : Nat) (f : Fm) (h0 : 0 < n) (h5 : n ≤ 5) (hf : f.ok n 4) : t4S [.un, x, s2, .sh (.int n), .sh f.d, .ow true (.list (dueV f n)), s6, s7, .un, .un, .un, .un, .un, .un] = .ok .nx [.un, x, s2, .sh (.int n), .sh f.d, .ow true (.list (dueV f n)), s6, s7, .un, .un, .un, .un, .un, .un] := by
  have hr := due_repr f n h5 hf
  have eR : ∀ d, reprOk d = true → fRepr d = some ⟨.str d.shown, false⟩ := fun d h => by unfold fRepr; rw [if_pos h]
  have c1 : xLc (iR1 (xCons (xC (.int 5)) xNil)) (gV 12) tTrue (xOne fRepr (xO (xCall0 3 F__law_told (xCons (xV 12) (xCons (xV 3) (xCons (xV 4) xNil)))))) [12] [.un, x, s2, .sh (.int n), .sh f.d, .ow true (.list (dueV f n)), s6, s7, .un, .un, .un, .un, .un, .un] = .ok ⟨.list ((List.range 5).map fun w => .str (((dueV f n)[w]?).getD .none).shown), true⟩ [.un, x, s2, .sh (.int n), .sh f.d, .ow true (.list (dueV f n)), s6, s7, .un, .un, .un, .un, .un, .un] := by
    refine xLc_all (List.range 5) (fun w => .int (w : Int)) (fun w => .str (((dueV f n)[w]?).getD .none).shown) rfl rfl (by show 5 ≤ most; decide) ?_
    intro w hw
    obtain ⟨d, hd, ht⟩ := told_all f n h0 h5 hf w (List.mem_range.mp hw)
    rw [hd]
    refine ⟨[.un, x, s2, .sh (.int n), .sh f.d, .ow true (.list (dueV f n)), s6, s7, .un, .un, .un, .un, .sh (.int w), .un], [.un, x, s2, .sh (.int n), .sh f.d, .ow true (.list (dueV f n)), s6, s7, .un, .un, .un, .un, .sh (.int w), .un], false, [.un, x, s2, .sh (.int n), .sh f.d, .ow true (.list (dueV f n)), s6, s7, .un, .un, .un, .un, .sh (.int w), .un], rfl, rfl, ?_, rfl⟩
    exact xOne_of (xO_of (xCall0_of (ds := [.int w, .int n, f.d]) (n := 3) rfl rfl ht)) (eR d (hr d (List.mem_of_getElem? hd)).1)
  have c2 : xLk (some 5) (xLc (iN 5) (gV 13) tTrue (xOne fRepr (xB 13)) [13]) [.un, x, s2, .sh (.int n), .sh f.d, .ow true (.list (dueV f n)), s6, s7, .un, .un, .un, .un, .un, .un] = .ok ⟨.list ((dueV f n).map fun d => .str d.shown), true⟩ [.un, x, s2, .sh (.int n), .sh f.d, .ow true (.list (dueV f n)), s6, s7, .un, .un, .un, .un, .un, .un] := by
    refine xLk_some (xLc_all (e1 := [.un, x, s2, .sh (.int n), .sh f.d, .ow false (.list (dueV f n)), s6, s7, .un, .un, .un, .un, .un, .un]) (dueV f n) (fun d => d) (fun d => .str d.shown) (by rw [List.map_id']; rfl) rfl (by show 5 ≤ most; decide) fun d hd => ?_) rfl
    exact ⟨[.un, x, s2, .sh (.int n), .sh f.d, .ow false (.list (dueV f n)), s6, s7, .un, .un, .un, .un, .un, .sh d], [.un, x, s2, .sh (.int n), .sh f.d, .ow false (.list (dueV f n)), s6, s7, .un, .un, .un, .un, .un, .sh d], false, [.un, x, s2, .sh (.int n), .sh f.d, .ow false (.list (dueV f n)), s6, s7, .un, .un, .un, .un, .un, .sh d], rfl, rfl, xOne_of (d := d) rfl (eR d (hr d hd).1), rfl⟩
  have hne := fNe_strL ((dueV f n).map PyData.shown) (fun t m => by
    obtain ⟨d, hd, rfl⟩ := List.mem_map.mp m
    exact (hr d hd).2)
  rw [List.map_map] at hne
  exact (if_ff (xTest_of (fr := false) (xOp_ex (xLk_no c1) (xO_of c2) hne))).trans rfl


theorem LD.okD {m : Nat} {d : D} (h : LD m d) (hm : m ≤ 64) : okD d := okD_iff.mpr ⟨h.1, Nat.le_trans h.2 hm⟩
theorem fm_LD {f : Fm} {n : Nat} (hf : f.ok n 4) : LD 5 f.d := f.lay n 4 hf
def fixV (f : Fm) (n : Nat) : List D := [.none, .tuple [], .str "leaf", .tuple [.str "leaf", .int n, .int 1], .tuple [.str "leaf", .int 0], .tuple [.str "and", f.d], .list [f.d]]
theorem fix_ok (f : Fm) (n : Nat) (hf : f.ok n 4) : ∀ d ∈ fixV f n, okD d := by
  have hl : ∀ m, LD m (.str "leaf") := fun m => ⟨by decide +kernel, Nat.zero_le _⟩
  have ha : ∀ m, LD m (.str "and") := fun m => ⟨by decide +kernel, Nat.zero_le _⟩
  have hi : ∀ m i, LD m (.int i) := fun m i => (LD_int i).up (Nat.zero_le _)
  have h5 := fm_LD hf
  intro d m
  simp only [fixV, List.mem_cons, List.not_mem_nil, or_false] at m
  rcases m with rfl | rfl | rfl | rfl | rfl | rfl | rfl
  · exact LD.okD (m := 0) ⟨rfl, Nat.le_refl _⟩ (by decide)
  · exact (LD_tup (m := 0) (ds := []) (by intro d m; cases m)).1.okD (by decide)
  · exact (hl 0).okD (by decide)
  · exact (LD_tup (m := 0) (by intro d m; simp at m; rcases m with rfl | rfl | rfl; exact hl _; exact hi _ _; exact hi _ _)).1.okD (by decide)
  · exact (LD_tup (m := 0) (by intro d m; simp at m; rcases m with rfl | rfl; exact hl _; exact hi _ _)).1.okD (by decide)
  · exact (LD_tup (m := 5) (by intro d m; simp at m; rcases m with rfl | rfl; exact ha _; exact h5)).1.okD (by decide)
  · exact (LD_tup (m := 5) (by intro d m; simp at m; rcases m with rfl; exact h5)).2.okD (by decide)
def valsF : XF := xOp fAdd (.ex (xLk none (xLc (iR1 (xCons (xC (.int 6)) xNil)) (gV 10) tTrue (xCallD 1 1 (F__law_bent_formula 30) (xCons (xV 4) xNil)) [10]))) (xO (xLst (xCons (xC .none) (xCons (xTup xNil) (xCons (xC (.str "leaf")) (xCons (xTup (xCons (xC (.str "leaf")) (xCons (xV 3) (xCons (xC (.int 1)) xNil)))) (xCons (xTup (xCons (xC (.str "leaf")) (xCons (xC (.int 0)) xNil))) (xCons (xTup (xCons (xC (.str "and")) (xCons (xV 4) xNil))) (xCons (xLst (xCons (xV 4) xNil)) xNil)))))))))
theorem vals_ok (x s2 s5 s6 s7 : Sl) (n : Nat) (f : Fm) (hx : DS x) (hf : f.ok n 4) : ∃ (vs : List D) (x' : Sl), DS x' ∧ (∀ d ∈ vs, okD d) ∧ iA valsF [.un, x, s2, .sh (.int n), .sh f.d, s5, s6, s7, .un, .un, .un, .un, .un, .un] = .ok vs [.un, x', s2, .sh (.int n), .sh f.d, s5, s6, s7, .un, .un, .un, .un, .un, .un] := by
  obtain ⟨ys, e2, h2, ⟨x', y, d', rfl, hy⟩, hl⟩ := xLc_inv (I := fun acc e => ∃ (x y : Sl), DS x ∧ e = [.un, x, s2, .sh (.int n), .sh f.d, s5, s6, s7, .un, .un, y, .un, .un, .un] ∧ ∀ r ∈ acc, okD r)
    (it := iR1 (xCons (xC (.int 6)) xNil)) (gg := gV 10) (tt := tTrue) (te := xCallD 1 1 (F__law_bent_formula 30) (xCons (xV 4) xNil)) (vs := [10])
    (e := [.un, x, s2, .sh (.int n), .sh f.d, s5, s6, s7, .un, .un, .un, .un, .un, .un]) (e1 := [.un, x, s2, .sh (.int n), .sh f.d, s5, s6, s7, .un, .un, .un, .un, .un, .un]) (ds := iseq 0 1 6) rfl rfl (by show 6 ≤ most; decide) ⟨x, .un, hx, rfl, by intro r m; cases m⟩ (fun d _ acc e ⟨x, y, hx, he, hacc⟩ => by
      subst he
      obtain ⟨r, x', d', hr, hb⟩ := bent_ok n 4 30 f x (by decide) hf hx
      refine ⟨[.un, x, s2, .sh (.int n), .sh f.d, s5, s6, s7, .un, .un, .sh d, .un, .un, .un], _, r, false, [.un, x', s2, .sh (.int n), .sh f.d, s5, s6, s7, .un, .un, .sh d, .un, .un, .un], rfl, rfl, callDi (ds := [f.d]) hx d' rfl rfl rfl hb, x', .sh d, d', rfl, fun z m => ?_⟩
      rcases List.mem_append.mp m with m | m
      · exact hacc z m
      · rw [List.mem_singleton.mp m]; exact hr.okD (by decide))
  have hl : ys.length = 6 := hl
  have h3 : xLst (xCons (xC .none) (xCons (xTup xNil) (xCons (xC (.str "leaf")) (xCons (xTup (xCons (xC (.str "leaf")) (xCons (xV 3) (xCons (xC (.int 1)) xNil)))) (xCons (xTup (xCons (xC (.str "leaf")) (xCons (xC (.int 0)) xNil))) (xCons (xTup (xCons (xC (.str "and")) (xCons (xV 4) xNil))) (xCons (xLst (xCons (xV 4) xNil)) xNil))))))) [.un, x', s2, .sh (.int n), .sh f.d, s5, s6, s7, .un, .un, .un, .un, .un, .un] = .ok ⟨.list (fixV f n), true⟩ [.un, x', s2, .sh (.int n), .sh f.d, s5, s6, s7, .un, .un, .un, .un, .un, .un] := rfl
  have h4 : fAdd (.list ys) (.list (fixV f n)) = some ⟨.list (ys ++ fixV f n), true⟩ := by
    have : ys.length + (fixV f n).length ≤ most := by rw [hl]; show 6 + 7 ≤ most; decide
    exact if_pos this
  have h5 : valsF [.un, x, s2, .sh (.int n), .sh f.d, s5, s6, s7, .un, .un, .un, .un, .un, .un] = .ok ⟨.list (ys ++ fixV f n), true⟩ [.un, x', s2, .sh (.int n), .sh f.d, s5, s6, s7, .un, .un, .un, .un, .un, .un] := xOp_ex (xLk_no h2) (xO_of h3) h4
  refine ⟨ys ++ fixV f n, x', d', fun d m => ?_, ?_⟩
  · rcases List.mem_append.mp m with m | m
    · exact hy d m
    · exact fix_ok f n hf d m
  · show (valsF _).bind _ = _
    rw [h5]; rfl
def turnS : SF := (sSeq (sAsg (xOp fAdd (.ex (xC (.int 1))) (xO (xCallD 1 1 F__law_take (xCons (xC (.int 5)) xNil)))) (gV 3))
 (sSeq (sAsg (xCallD 1 2 (F__law_formula 30) (xCons (xV 3) (xCons (xC (.int 4)) xNil))) (gV 4))
 (sSeq (sAsg t3F (gV 5))
 (sSeq t4S
 (sFor (iA valsF) (gV 6) b2S)))))
theorem turn_ok (x s2 s3 s4 s5 s6 s7 : Sl) (hx : DS x) : ∃ x' s3' s4' s5' s6' s7', DS x' ∧ turnS [.un, x, s2, s3, s4, s5, s6, s7, .un, .un, .un, .un, .un, .un] = .ok .nx [.un, x', s2, s3', s4', s5', s6', s7', .un, .un, .un, .un, .un, .un] := by
  obtain ⟨q, x1, d1, q0, q1, h1⟩ := take_ds (m := 5) hx (by decide) (by decide)
  obtain ⟨n, hn⟩ : ∃ n : Nat, (n : Int) = 1 + q := ⟨(1 + q).toNat, by omega⟩
  have n0 : 0 < n := by omega
  have n5 : n ≤ 5 := by omega
  have a1 : sAsg (xOp fAdd (.ex (xC (.int 1))) (xO (xCallD 1 1 F__law_take (xCons (xC (.int 5)) xNil)))) (gV 3) [.un, x, s2, s3, s4, s5, s6, s7, .un, .un, .un, .un, .un, .un] = .ok .nx [.un, x1, s2, .sh (.int n), s4, s5, s6, s7, .un, .un, .un, .un, .un, .un] := by
    rw [hn]
    exact sAsg_of (r := ⟨.int (1 + q), false⟩) (xOp_ex (r := ⟨.int 1, false⟩) rfl (xO_of (h1 1 _ _ rfl rfl)) rfl) rfl
  obtain ⟨f, x2, d2, hf, h2⟩ := fm_ok n n0 n5 4 30 x1 (by decide) d1
  have a2 : sAsg (xCallD 1 2 (F__law_formula 30) (xCons (xV 3) (xCons (xC (.int 4)) xNil))) (gV 4) [.un, x1, s2, .sh (.int n), s4, s5, s6, s7, .un, .un, .un, .un, .un, .un] = .ok .nx [.un, x2, s2, .sh (.int n), .sh f.d, s5, s6, s7, .un, .un, .un, .un, .un, .un] :=
    sAsg_of (callDi (ds := [.int n, .int 4]) d1 d2 rfl rfl rfl h2) rfl
  have a3 : sAsg t3F (gV 5) [.un, x2, s2, .sh (.int n), .sh f.d, s5, s6, s7, .un, .un, .un, .un, .un, .un] = .ok .nx [.un, x2, s2, .sh (.int n), .sh f.d, .ow true (.list (dueV f n)), s6, s7, .un, .un, .un, .un, .un, .un] := sAsg_of (t3_ok x2 s2 s5 s6 s7 n f n0 n5 hf) rfl
  have a4 := t4_ok x2 s2 s6 s7 n f n0 n5 hf
  obtain ⟨vs, x3, d3, hv, h3⟩ := vals_ok x2 s2 (.ow true (.list (dueV f n))) s6 s7 n f d2 hf
  obtain ⟨e', h4, y6, y7, rfl⟩ := for_inv (I := fun e => ∃ y6 y7, e = [.un, x3, s2, .sh (.int n), .sh f.d, .ow true (.list (dueV f n)), y6, y7, .un, .un, .un, .un, .un, .un]) (gg := gV 6) (b := b2S) h3 ⟨_, _, rfl⟩ (fun d md e ⟨y6, y7, he⟩ => by
    subst he
    obtain ⟨z7, hz⟩ := b2_ok x3 s2 (.sh f.d) (.ow true (.list (dueV f n))) y7 n d n0 n5 (hv d md)
    exact ⟨_, _, rfl, .inl hz, _, _, rfl⟩)
  refine ⟨x3, .sh (.int n), .sh f.d, .ow true (.list (dueV f n)), y6, y7, d3, ?_⟩
  unfold turnS
  rw [seq_nx a1, seq_nx a2, seq_nx a3, seq_nx a4]
  exact h4


def leaf1 : D := .tuple [.str "leaf", .int 0, .int 1]
def leaf0 : D := .tuple [.str "leaf", .int 0, .int 0]
theorem bad_0_0 : F__law_told [.sh (.int 0), .sh (.none), .sh leaf1] = .ok ⟨.str "<malformed>", false⟩ [.sh (.int 0), .sh (.none), .sh leaf1] := by kernel_rfl
theorem bad_0_1 : F__law_told [.sh (.int 1), .sh (.none), .sh leaf1] = .ok ⟨.str "<malformed>", false⟩ [.sh (.int 1), .sh (.none), .sh leaf1] := by kernel_rfl
theorem bad_0_2 : F__law_told [.sh (.int 2), .sh (.none), .sh leaf1] = .ok ⟨.str "<malformed>", false⟩ [.sh (.int 2), .sh (.none), .sh leaf1] := by kernel_rfl
theorem bad_0_3 : F__law_told [.sh (.int 3), .sh (.none), .sh leaf1] = .ok ⟨.str "<malformed>", false⟩ [.sh (.int 3), .sh (.none), .sh leaf1] := by kernel_rfl
theorem bad_0_4 : F__law_told [.sh (.int 4), .sh (.none), .sh leaf1] = .ok ⟨.str "<malformed>", false⟩ [.sh (.int 4), .sh (.none), .sh leaf1] := by kernel_rfl
theorem bad_1_0 : F__law_told [.sh (.int 0), .sh (.int 0), .sh leaf1] = .ok ⟨.str "<malformed>", false⟩ [.sh (.int 0), .sh (.int 0), .sh leaf1] := by kernel_rfl
theorem bad_1_1 : F__law_told [.sh (.int 1), .sh (.int 0), .sh leaf1] = .ok ⟨.str "<malformed>", false⟩ [.sh (.int 1), .sh (.int 0), .sh leaf1] := by kernel_rfl
theorem bad_1_2 : F__law_told [.sh (.int 2), .sh (.int 0), .sh leaf1] = .ok ⟨.str "<malformed>", false⟩ [.sh (.int 2), .sh (.int 0), .sh leaf1] := by kernel_rfl
theorem bad_1_3 : F__law_told [.sh (.int 3), .sh (.int 0), .sh leaf1] = .ok ⟨.str "<malformed>", false⟩ [.sh (.int 3), .sh (.int 0), .sh leaf1] := by kernel_rfl
theorem bad_1_4 : F__law_told [.sh (.int 4), .sh (.int 0), .sh leaf1] = .ok ⟨.str "<malformed>", false⟩ [.sh (.int 4), .sh (.int 0), .sh leaf1] := by kernel_rfl
theorem bad_2_0 : F__law_told [.sh (.int 0), .sh (.int 6), .sh leaf1] = .ok ⟨.str "<malformed>", false⟩ [.sh (.int 0), .sh (.int 6), .sh leaf1] := by kernel_rfl
theorem bad_2_1 : F__law_told [.sh (.int 1), .sh (.int 6), .sh leaf1] = .ok ⟨.str "<malformed>", false⟩ [.sh (.int 1), .sh (.int 6), .sh leaf1] := by kernel_rfl
theorem bad_2_2 : F__law_told [.sh (.int 2), .sh (.int 6), .sh leaf1] = .ok ⟨.str "<malformed>", false⟩ [.sh (.int 2), .sh (.int 6), .sh leaf1] := by kernel_rfl
theorem bad_2_3 : F__law_told [.sh (.int 3), .sh (.int 6), .sh leaf1] = .ok ⟨.str "<malformed>", false⟩ [.sh (.int 3), .sh (.int 6), .sh leaf1] := by kernel_rfl
theorem bad_2_4 : F__law_told [.sh (.int 4), .sh (.int 6), .sh leaf1] = .ok ⟨.str "<malformed>", false⟩ [.sh (.int 4), .sh (.int 6), .sh leaf1] := by kernel_rfl
theorem bad_3_0 : F__law_told [.sh (.int 0), .sh (.bool true), .sh leaf1] = .ok ⟨.str "<malformed>", false⟩ [.sh (.int 0), .sh (.bool true), .sh leaf1] := by kernel_rfl
theorem bad_3_1 : F__law_told [.sh (.int 1), .sh (.bool true), .sh leaf1] = .ok ⟨.str "<malformed>", false⟩ [.sh (.int 1), .sh (.bool true), .sh leaf1] := by kernel_rfl
theorem bad_3_2 : F__law_told [.sh (.int 2), .sh (.bool true), .sh leaf1] = .ok ⟨.str "<malformed>", false⟩ [.sh (.int 2), .sh (.bool true), .sh leaf1] := by kernel_rfl
theorem bad_3_3 : F__law_told [.sh (.int 3), .sh (.bool true), .sh leaf1] = .ok ⟨.str "<malformed>", false⟩ [.sh (.int 3), .sh (.bool true), .sh leaf1] := by kernel_rfl
theorem bad_3_4 : F__law_told [.sh (.int 4), .sh (.bool true), .sh leaf1] = .ok ⟨.str "<malformed>", false⟩ [.sh (.int 4), .sh (.bool true), .sh leaf1] := by kernel_rfl
theorem bad_4_0 : F__law_told [.sh (.int 0), .sh (.str "2"), .sh leaf1] = .ok ⟨.str "<malformed>", false⟩ [.sh (.int 0), .sh (.str "2"), .sh leaf1] := by kernel_rfl
theorem bad_4_1 : F__law_told [.sh (.int 1), .sh (.str "2"), .sh leaf1] = .ok ⟨.str "<malformed>", false⟩ [.sh (.int 1), .sh (.str "2"), .sh leaf1] := by kernel_rfl
theorem bad_4_2 : F__law_told [.sh (.int 2), .sh (.str "2"), .sh leaf1] = .ok ⟨.str "<malformed>", false⟩ [.sh (.int 2), .sh (.str "2"), .sh leaf1] := by kernel_rfl
theorem bad_4_3 : F__law_told [.sh (.int 3), .sh (.str "2"), .sh leaf1] = .ok ⟨.str "<malformed>", false⟩ [.sh (.int 3), .sh (.str "2"), .sh leaf1] := by kernel_rfl
theorem bad_4_4 : F__law_told [.sh (.int 4), .sh (.str "2"), .sh leaf1] = .ok ⟨.str "<malformed>", false⟩ [.sh (.int 4), .sh (.str "2"), .sh leaf1] := by kernel_rfl
def badL : List D := [.none, .int 0, .int 6, .bool true, .str "2"]
theorem bad_told (b : D) (hb : b ∈ badL) (w : Nat) (hw : w < 5) : F__law_told [.sh (.int w), .sh b, .sh leaf1] = .ok ⟨.str "<malformed>", false⟩ [.sh (.int w), .sh b, .sh leaf1] := by
  simp only [badL, List.mem_cons, List.not_mem_nil, or_false] at hb
  rcases hb with rfl | rfl | rfl | rfl | rfl
  · match w, hw with
    | 0, _ => exact bad_0_0
    | 1, _ => exact bad_0_1
    | 2, _ => exact bad_0_2
    | 3, _ => exact bad_0_3
    | 4, _ => exact bad_0_4
  · match w, hw with
    | 0, _ => exact bad_1_0
    | 1, _ => exact bad_1_1
    | 2, _ => exact bad_1_2
    | 3, _ => exact bad_1_3
    | 4, _ => exact bad_1_4
  · match w, hw with
    | 0, _ => exact bad_2_0
    | 1, _ => exact bad_2_1
    | 2, _ => exact bad_2_2
    | 3, _ => exact bad_2_3
    | 4, _ => exact bad_2_4
  · match w, hw with
    | 0, _ => exact bad_3_0
    | 1, _ => exact bad_3_1
    | 2, _ => exact bad_3_2
    | 3, _ => exact bad_3_3
    | 4, _ => exact bad_3_4
  · match w, hw with
    | 0, _ => exact bad_4_0
    | 1, _ => exact bad_4_1
    | 2, _ => exact bad_4_2
    | 3, _ => exact bad_4_3
    | 4, _ => exact bad_4_4
def deepN : Nat → D | 0 => leaf1 | k + 1 => .tuple [.str "and", deepN k, leaf0]
def wideN : Nat → D | 0 => leaf0 | k + 1 => .tuple [.str "or", wideN k, wideN k]
theorem isf1 (v : D) (b : Bool) (hv : SeqAt.shaped v = true) (hb : (cnt 12 v 1).isSome = b) : F_is_formula [.sh (.int 1), .sh v] = .ok ⟨.bool b, false⟩ [.sh (.int 1), .sh v] := by
  rw [← hb]; exact isf_ok 1 v (by decide) (by decide) hv
theorem deep_a : F_is_formula [.sh (.int 1), .sh (deepN 12)] = .ok ⟨.bool true, false⟩ [.sh (.int 1), .sh (deepN 12)] := isf1 _ _ (by kernel_rfl) (by kernel_rfl)
theorem deep_b : F_is_formula [.sh (.int 1), .sh (.tuple [.str "or", deepN 12, deepN 12])] = .ok ⟨.bool false, false⟩ [.sh (.int 1), .sh (.tuple [.str "or", deepN 12, deepN 12])] := isf1 _ _ (by kernel_rfl) (by kernel_rfl)
theorem wide_a : F_is_formula [.sh (.int 1), .sh (wideN 6)] = .ok ⟨.bool true, false⟩ [.sh (.int 1), .sh (wideN 6)] := isf1 _ _ (by kernel_rfl) (by kernel_rfl)
theorem wide_b : F_is_formula [.sh (.int 1), .sh (.tuple [.str "or", wideN 6, leaf1])] = .ok ⟨.bool false, false⟩ [.sh (.int 1), .sh (.tuple [.str "or", wideN 6, leaf1])] := isf1 _ _ (by kernel_rfl) (by kernel_rfl)
theorem fEq_strL (ts : List Str) (h : ∀ t ∈ ts, PyData.strOk t = true) : fEq (.list (ts.map .str)) (.list (ts.map .str)) = sb true := by
  obtain ⟨h1, h2, h3⟩ := strs_lay ts h
  have hs : SeqAt.shaped (.list (ts.map .str)) = true := by simp [SeqAt.shaped, PyData.canLay0, PyData.depth, h1, h2]
  unfold fEq
  rw [hs]
  simp [PyData.eqv, h3]
def deepS : SF := (sIf (tOrT (tNotT (tTru (xO (xCall0 2 F__law_says (xCons (xCall0 2 F_is_formula (xCons (xC (.int 1)) (xCons (xV 8) xNil))) (xCons (xC (.bool true)) xNil)))))) (tNotT (tTru (xO (xCall0 2 F__law_says (xCons (xCall0 2 F_is_formula (xCons (xC (.int 1)) (xCons (xTup (xCons (xC (.str "or")) (xCons (xV 8) (xCons (xV 8) xNil)))) xNil))) (xCons (xC (.bool false)) xNil)))))))
 (sRet (xC (.bool false)))
 sNil)
def wideS : SF := (sIf (tOrT (tNotT (tTru (xO (xCall0 2 F__law_says (xCons (xCall0 2 F_is_formula (xCons (xC (.int 1)) (xCons (xV 9) xNil))) (xCons (xC (.bool true)) xNil)))))) (tNotT (tTru (xO (xCall0 2 F__law_says (xCons (xCall0 2 F_is_formula (xCons (xC (.int 1)) (xCons (xTup (xCons (xC (.str "or")) (xCons (xV 9) (xCons (xTup (xCons (xC (.str "leaf")) (xCons (xC (.int 0)) (xCons (xC (.int 1)) xNil)))) xNil)))) xNil))) (xCons (xC (.bool false)) xNil)))))))
 (sRet (xC (.bool false)))
 sNil)
theorem says_run {ga : En → Res (List D)} {e : En} {v : D} {b : Bool} (hg : ga e = .ok [.int 1, v] e) (hv : F_is_formula [.sh (.int 1), .sh v] = .ok ⟨.bool b, false⟩ [.sh (.int 1), .sh v]) : tNotT (tTru (xO (xCall0 2 F__law_says (xCons (xCall0 2 F_is_formula ga) (xCons (xC (.bool b)) xNil))))) e = .ok false e := by
  have t2 : xCall0 2 F_is_formula ga e = .ok ⟨.bool b, false⟩ e := xCall0_of (ds := [.int 1, v]) (n := 2) hg rfl hv
  have t3 : xCall0 2 F__law_says (xCons (xCall0 2 F_is_formula ga) (xCons (xC (.bool b)) xNil)) e = .ok ⟨.bool true, false⟩ e := xCall0_of (ds := [.bool b, .bool b]) (n := 2) (xCons_of t2 rfl) rfl (says_ok b b rfl)
  exact tNotT_of (b := true) (tTru_of (xO_of t3) rfl)
def endS : SF := (sSeq (sAsg (xOp fIxA (.ex (xLst (xCons (xC .none) (xCons (xC (.int 0)) (xCons (xC (.int 6)) (xCons (xC (.bool true)) (xCons (xC (.str "2")) xNil))))))) (xO (xCallD 1 1 F__law_take (xCons (xC (.int 5)) xNil)))) (gV 11))
 (sRet (xOp fEq (.ex (xLk none (xLc (iR1 (xCons (xC (.int 5)) xNil)) (gV 12) tTrue (xCall0 3 F__law_told (xCons (xV 12) (xCons (xV 11) (xCons (xTup (xCons (xC (.str "leaf")) (xCons (xC (.int 0)) (xCons (xC (.int 1)) xNil)))) xNil)))) [12]))) (xO (xOp fMul (.ex (xLst (xCons (xC (.str "<malformed>")) xNil))) (xO (xC (.int 5))))))))
def tailS : SF := (sSeq (sAsg (xTup (xCons (xTup (xCons (xC (.str "leaf")) (xCons (xC (.int 0)) (xCons (xC (.int 1)) xNil)))) (xCons (xTup (xCons (xC (.str "leaf")) (xCons (xC (.int 0)) (xCons (xC (.int 0)) xNil)))) xNil))) (gTp 2 (gsCons (gV 8) (gsCons (gV 9) gsNil))))
 (sSeq (sFor (iR1 (xCons (xC (.int 12)) xNil)) (gV 10)
 (sAsg (xTup (xCons (xC (.str "and")) (xCons (xV 8) (xCons (xTup (xCons (xC (.str "leaf")) (xCons (xC (.int 0)) (xCons (xC (.int 0)) xNil)))) xNil)))) (gV 8)))
 (sSeq (sFor (iR1 (xCons (xC (.int 6)) xNil)) (gV 10)
 (sAsg (xTup (xCons (xC (.str "or")) (xCons (xV 9) (xCons (xV 9) xNil)))) (gV 9)))
 (sSeq deepS
 (sSeq wideS
 endS)))))
theorem lw_eq : b_law = sSeq (sFor (iR1 (xCons (xC (.int 3)) xNil)) (gV 2) turnS) tailS := rfl
theorem end_ok (x s2 s3 s4 s5 s6 s7 s10 : Sl) (hx : DS x) : ∃ e' fr, endS [.un, x, s2, s3, s4, s5, s6, s7, .sh (deepN 12), .sh (wideN 6), s10, .un, .un, .un] = .ok (.rt ⟨.bool true, fr⟩) e' := by
  obtain ⟨q, x1, d1, q0, q1, h1⟩ := take_ds (m := 5) hx (by decide) (by decide)
  have hb : ∃ b, b ∈ badL ∧ fIxA (.list badL) (.int q) = some ⟨b, false⟩ := by
    have : q = 0 ∨ q = 1 ∨ q = 2 ∨ q = 3 ∨ q = 4 := by omega
    rcases this with rfl | rfl | rfl | rfl | rfl
    · exact ⟨.none, by simp [badL], rfl⟩
    · exact ⟨.int 0, by simp [badL], rfl⟩
    · exact ⟨.int 6, by simp [badL], rfl⟩
    · exact ⟨.bool true, by simp [badL], rfl⟩
    · exact ⟨.str "2", by simp [badL], rfl⟩
  obtain ⟨b, hb, hix⟩ := hb
  have a1 : sAsg (xOp fIxA (.ex (xLst (xCons (xC .none) (xCons (xC (.int 0)) (xCons (xC (.int 6)) (xCons (xC (.bool true)) (xCons (xC (.str "2")) xNil))))))) (xO (xCallD 1 1 F__law_take (xCons (xC (.int 5)) xNil)))) (gV 11) [.un, x, s2, s3, s4, s5, s6, s7, .sh (deepN 12), .sh (wideN 6), s10, .un, .un, .un] = .ok .nx [.un, x1, s2, s3, s4, s5, s6, s7, .sh (deepN 12), .sh (wideN 6), s10, .sh b, .un, .un] :=
    sAsg_of (xOp_ex (r := ⟨.list badL, true⟩) rfl (xO_of (h1 1 _ _ rfl rfl)) hix) rfl
  have u1 : xLc (iR1 (xCons (xC (.int 5)) xNil)) (gV 12) tTrue (xCall0 3 F__law_told (xCons (xV 12) (xCons (xV 11) (xCons (xTup (xCons (xC (.str "leaf")) (xCons (xC (.int 0)) (xCons (xC (.int 1)) xNil)))) xNil)))) [12] [.un, x1, s2, s3, s4, s5, s6, s7, .sh (deepN 12), .sh (wideN 6), s10, .sh b, .un, .un] = .ok ⟨.list ((List.range 5).map fun _ => .str "<malformed>"), true⟩ [.un, x1, s2, s3, s4, s5, s6, s7, .sh (deepN 12), .sh (wideN 6), s10, .sh b, .un, .un] := by
    refine xLc_all (List.range 5) (fun w => .int (w : Int)) (fun _ => .str "<malformed>") rfl rfl (by show 5 ≤ most; decide) ?_
    intro w hw
    have := bad_told b hb w (List.mem_range.mp hw)
    exact ⟨[.un, x1, s2, s3, s4, s5, s6, s7, .sh (deepN 12), .sh (wideN 6), s10, .sh b, .sh (.int w), .un], [.un, x1, s2, s3, s4, s5, s6, s7, .sh (deepN 12), .sh (wideN 6), s10, .sh b, .sh (.int w), .un], false, [.un, x1, s2, s3, s4, s5, s6, s7, .sh (deepN 12), .sh (wideN 6), s10, .sh b, .sh (.int w), .un], rfl, rfl, xCall0_of (ds := [.int w, b, leaf1]) (n := 3) rfl rfl this, rfl⟩
  have u2 := fEq_strL (List.replicate 5 ("<malformed>" : Str)) (fun t m => by rw [List.eq_of_mem_replicate m]; exact strOk_str _)
  unfold endS
  rw [seq_nx a1]
  exact ⟨_, _, sRet_of (xOp_ex (d := .list ((List.replicate 5 ("<malformed>" : Str)).map .str)) (xLk_no u1) rfl u2)⟩
theorem tail_ok (x s2 s3 s4 s5 s6 s7 : Sl) (hx : DS x) : ∃ e' fr, tailS [.un, x, s2, s3, s4, s5, s6, s7, .un, .un, .un, .un, .un, .un] = .ok (.rt ⟨.bool true, fr⟩) e' := by
  unfold tailS
  refine seq_ends (e1 := [.un, x, s2, s3, s4, s5, s6, s7, .sh (deepN 0), .sh (wideN 0), .un, .un, .un, .un]) rfl ?_
  refine seq_ends (e1 := [.un, x, s2, s3, s4, s5, s6, s7, .sh (deepN 12), .sh (wideN 0), .sh (.int 11), .un, .un, .un]) (by kernel_rfl) ?_
  refine seq_ends (e1 := [.un, x, s2, s3, s4, s5, s6, s7, .sh (deepN 12), .sh (wideN 6), .sh (.int 5), .un, .un, .un]) (by kernel_rfl) ?_
  refine seq_ends (e1 := [.un, x, s2, s3, s4, s5, s6, s7, .sh (deepN 12), .sh (wideN 6), .sh (.int 5), .un, .un, .un]) ?_ ?_
  · unfold deepS
    refine (if_ff (e1 := [.un, x, s2, s3, s4, s5, s6, s7, .sh (deepN 12), .sh (wideN 6), .sh (.int 5), .un, .un, .un]) ?_).trans rfl
    refine (tOrT_ff (e1 := [.un, x, s2, s3, s4, s5, s6, s7, .sh (deepN 12), .sh (wideN 6), .sh (.int 5), .un, .un, .un]) ?_).trans ?_
    · exact says_run (v := deepN 12) rfl deep_a
    · exact says_run (v := .tuple [.str "or", deepN 12, deepN 12]) rfl deep_b
  refine seq_ends (e1 := [.un, x, s2, s3, s4, s5, s6, s7, .sh (deepN 12), .sh (wideN 6), .sh (.int 5), .un, .un, .un]) ?_ ?_
  · unfold wideS
    refine (if_ff (e1 := [.un, x, s2, s3, s4, s5, s6, s7, .sh (deepN 12), .sh (wideN 6), .sh (.int 5), .un, .un, .un]) ?_).trans rfl
    refine (tOrT_ff (e1 := [.un, x, s2, s3, s4, s5, s6, s7, .sh (deepN 12), .sh (wideN 6), .sh (.int 5), .un, .un, .un]) ?_).trans ?_
    · exact says_run (v := wideN 6) rfl wide_a
    · exact says_run (v := .tuple [.str "or", wideN 6, leaf1]) rfl wide_b
  exact end_ok x s2 s3 s4 s5 s6 s7 _ hx
theorem plain_law (ns : List Int) (seed : Int) (hn : ns.length ≤ 63) (hs : 0 ≤ seed) (hs1 : seed < 2147483647) : ∃ e' fr, b_law (.un :: .ow true (.list [.list (ns.map fun n => .int (absI n)), .int (-1), .int 0, .int seed]) :: List.replicate 12 .un) = .ok (.rt ⟨.bool true, fr⟩) e' := by
  have hD : Dr (ns.map absI) (-1) 0 seed := ⟨fun c m => by
    obtain ⟨n, _, rfl⟩ := List.mem_map.mp m
    unfold absI; split <;> omega, by rw [List.length_map]; exact hn, by decide, by decide, hs, hs1⟩
  have e0 : (Sl.un :: .ow true (.list [.list (ns.map fun n => .int (absI n)), .int (-1), .int 0, .int seed]) :: List.replicate 12 .un) = [.un, .ow true (drD (ns.map absI) (-1) 0 seed), .un, .un, .un, .un, .un, .un, .un, .un, .un, .un, .un, .un] := by
    unfold drD
    rw [List.map_map]; rfl
  rw [lw_eq, e0]
  obtain ⟨e1, h1, x, s2, s3, s4, s5, s6, s7, hx, rfl⟩ := for_inv (I := fun e => ∃ x s2 s3 s4 s5 s6 s7, DS x ∧ e = [.un, x, s2, s3, s4, s5, s6, s7, .un, .un, .un, .un, .un, .un]) (it := iR1 (xCons (xC (.int 3)) xNil)) (gg := gV 2) (b := turnS)
    (e := [.un, .ow true (drD (ns.map absI) (-1) 0 seed), .un, .un, .un, .un, .un, .un, .un, .un, .un, .un, .un, .un]) (ds := iseq 0 1 3) rfl ⟨_, _, _, _, _, _, _, ⟨_, _, _, _, hD, rfl⟩, rfl⟩ (fun d _ e ⟨x, s2, s3, s4, s5, s6, s7, hx, he⟩ => by
      subst he
      obtain ⟨x', s3', s4', s5', s6', s7', d', ht⟩ := turn_ok x (.sh d) s3 s4 s5 s6 s7 hx
      exact ⟨_, _, rfl, .inl ht, _, _, _, _, _, _, _, d', rfl⟩)
  exact seq_ends h1 (tail_ok x s2 s3 s4 s5 s6 s7 hx)


theorem ok_draw (T : Tx C mg) : ∃ f fd, FnG P w C.K mg base 1 f fd ["script"] (spDraw C.K) ∧ mg "_law_draw" = some (.ref f) ∧ PySem.W.keepIn C.K (.ref f) = true ∧ Binds C.K fd ["script"] [] := by
  obtain ⟨f, fd, F, hm, bd⟩ := T.d__law_draw
  have nd : (["script", "seed", "cell"] : List Str).Nodup := by decide
  have Sc := sc__law_draw
  refine ⟨f, fd, Fun.okG F Sc (fun vs H Q E h => ?_) (fun cdv A outer s H vs Q E hr h => ?_), hm, F.kp, bd⟩
  · obtain ⟨a, ns, rfl, _⟩ := h
    rfl
  obtain ⟨a, ns, rfl, hS, h63, q⟩ := h
  refine ⟨_, pss_cons (ps_set (i := 1) nd rfl (Or.inl (by kernel_rfl)) pe_int)
    (pss_cons (ps_for (passes_of rfl) rfl (pi_list (pe_var (i := 0) rfl (Or.inl (by kernel_rfl)))) (pg_name (i := 2) nd rfl (Or.inl (by kernel_rfl)))
      (pss_one (ps_set (i := 1) nd rfl (Or.inl (by kernel_rfl)) (pe_op op_mod (pe_callTy call_int1 (glk (by kernel_rfl)) T.b_int PyProof.Rows.boot_int (pa_cons (pe_op op_add (pe_op op_add (pe_op op_mulW (pe_var (i := 1) rfl (Or.inl (by kernel_rfl))) pe_int)
        (pe_op op_mod (pe_callB call_abs (glk (by kernel_rfl)) T.b_abs PyProof.Rows.boot_abs (pa_cons (pe_callTy call_int1 (glk (by kernel_rfl)) T.b_int PyProof.Rows.boot_int (pa_cons (pe_var (i := 2) rfl (Or.inl (by kernel_rfl))) pa_nil)) pa_nil)) pe_int)) pe_int) pa_nil)) pe_int))))
    (pss_one (ps_ret (pe_lst (pa_cons (pe_lc (own := [("cell", 2)]) (g := gName 2) (tt := tYes) rfl nd (pi_list (pe_var (i := 0) rfl (Or.inl (by kernel_rfl)))) (blkOk_by (by kernel_rfl))
        (fun _ _ _ _ _ => pg_name (i := 2) nd rfl (Or.inl (by kernel_rfl))) (fun _ _ _ _ _ => pts_nil)
        (fun _ _ _ _ _ => pe_callB call_abs (glk (by kernel_rfl)) T.b_abs PyProof.Rows.boot_abs (pa_cons (pe_callTy call_int1 (glk (by kernel_rfl)) T.b_int PyProof.Rows.boot_int (pa_cons (pe_var (i := 2) rfl (Or.inl (by kernel_rfl))) pa_nil)) pa_nil)))
      (pa_cons (pe_un un_neg pe_int) (pa_cons pe_int (pa_cons (pe_var (i := 1) rfl (Or.inl (by kernel_rfl))) pa_nil)))))))), ?_⟩
  refine ⟨_, rfl, a, rfl, ⟨_, hS⟩, for_list (xs := ns.map V.int) (fun _ σ H' => H' = H ∧ ∃ (seed : Int) (x : Option V), σ = [some (V.ref a), some (V.int seed), x] ∧ 0 ≤ seed ∧ seed < 2147483647) ⟨rfl, 7, none, rfl, by decide, by decide⟩ (fun _ _ _ _ h => by rw [h.1]; exact hS) (fun i x σ H' hx h => ?_) (fun σ H' h => ?_)⟩
  · obtain ⟨rfl, seed, y, rfl, h0, h1⟩ := h
    rw [List.getElem?_map] at hx
    cases z : ns[i]? with
    | none => rw [z] at hx; cases hx
    | some n =>
      rw [z] at hx
      cases hx
      refine ⟨_, rfl, _, _, rfl, rfl, seed_mul h0 h1, _, rfl, .inl ⟨n, rfl, n, rfl, _, _, rfl, rfl, (by show (0 : Int) < 65521; decide), _, _, rfl, rfl, _, _, rfl, rfl, .inl ⟨_, rfl, _, _, rfl, rfl, (by show (0 : Int) < 2147483647; decide), rfl, _, _, rfl, ?_, ?_⟩⟩⟩
      · exact Int.emod_nonneg _ (by decide)
      · exact Int.emod_lt_of_pos _ (by decide)
  · obtain ⟨rfl, seed, y, rfl, h0, h1⟩ := h
    refine ⟨_, rfl, a, rfl, ⟨_, hS⟩, fun c hc => lc_list (xs := ns.map V.int) (fun i H'' => Same H' H'' ∧ H'' c = some (.lst ((ns.take i).map fun n => V.int (absI n)))) ⟨same_new hc _, upd_same⟩ (fun _ _ _ h => h.1.seq hS) (fun i x H'' hx h => ?_) (fun H'' h => ?_)⟩
    · rw [List.getElem?_map] at hx
      cases z : ns[i]? with
      | none => rw [z] at hx; cases hx
      | some n =>
        rw [z] at hx
        cases hx
        refine ⟨rfl, ?_⟩
        dsimp only [tYes]
        rw [if_pos rfl]
        refine ⟨_, rfl, .inl ⟨n, rfl, n, rfl, (ns.take i).map fun n => V.int (absI n), h.2, ?_, ?_, ?_⟩⟩
        · rw [List.length_map, List.length_take]
          exact small1000 (by omega)
        · intro b u e
          rw [upd_ne (fun z => by rw [z, hc] at e; cases e)]
          exact h.1 b u e
        · rw [upd_same, List.take_add_one, z]
          simp [absI]
    · refine ⟨1, rfl, _, rfl, by show 4 ≤ sizeLine; exact most_ok (by decide), fun r hr' => ?_⟩
      have hl : ns.take (ns.map V.int).length = ns := by rw [List.length_map, List.take_length]
      rw [hl] at h
      have nc : r ≠ c := fun z => by rw [z, h.2] at hr'; cases hr'
      exact q r c _ seed (h.1.trans (same_new hr' _)) (h.1.free hr') hc nc upd_same (by rw [upd_ne (Ne.symm nc)]; exact h.2) h0 h1
theorem ok_law (T : Tx C mg) (hlaw : ∀ (ns : List Int) (seed : Int), ns.length ≤ 63 → 0 ≤ seed → seed < 2147483647 → ∃ e' fr, b_law (.un :: .ow true (.list [.list (ns.map fun n => .int (absI n)), .int (-1), .int 0, .int seed]) :: List.replicate 12 .un) = .ok (.rt ⟨.bool true, fr⟩) e') :
    ∃ f fd, FnG P w C.K mg base 37 f fd ["script"] (spLaw C.K) ∧ mg "law" = some (.ref f) ∧ Fun C.K "law" "law" s_law f fd := by
  obtain ⟨f, fd, F, hm, bd⟩ := T.d_law
  obtain ⟨fD, fdD, FD, mD, kD, bD⟩ := ok_draw (P := P) (w := w) (base := base) T
  have nd : (["script", "draw", "turn", "n", "formula", "dues", "value", "good", "deep", "wide", "k", "bad", "which", "due"] : List Str).Nodup := by decide
  refine ⟨f, fd, Fun.okG F sc_law (fun vs H Q E h => ?_) (fun cdv A outer s H vs Q E hr h => ?_), hm, F⟩
  · obtain ⟨a, ns, rfl, _⟩ := h
    rfl
  obtain ⟨a, ns, rfl, hS, h63, q⟩ := h
  refine ⟨_, pss_cons (ps_set (i := 1) nd rfl (Or.inr (by kernel_rfl)) (pe_callG (FD.mono (by decide)) hr (glk (by kernel_rfl)) mD kD bD (takes_of rfl rfl rfl rfl) (pa_cons (pe_var (i := 0) rfl (Or.inl (by kernel_rfl))) pa_nil))) (r_law T hr), ?_⟩
  refine ⟨_, rfl, a, ns, rfl, hS, h63, fun r c H' seed same fr fc nc e1 e2 h0 h1 => ?_⟩
  obtain ⟨e', fr', he⟩ := hlaw ns seed h63 h0 h1
  refine ⟨_, fun _ => False, draw_sim (n := 12) (a := a) nc e1 e2, ?_⟩
  rw [he]
  exact fun σ' v H2 p => by
    have rp := p.is.sh.2
    cases rp
    exact q H2
set_option maxHeartbeats 0 in
theorem all_mk {l : PySem.W.OpenLaw} {w : World} {K : PySem.W.Frag} {h : Heap} {mg : Str → Option Value} {fa : Addr} (X : K.In h) (G : h.Ns mainGlobals mg) (hfa : mg "law" = some (.ref fa))
    (z_abs : PySem.W.nsIn K mainGlobals "abs" = some none)
    (z_all : PySem.W.nsIn K mainGlobals "all" = some none)
    (z_bool : PySem.W.nsIn K mainGlobals "bool" = some none)
    (z_int : PySem.W.nsIn K mainGlobals "int" = some none)
    (z_isinstance : PySem.W.nsIn K mainGlobals "isinstance" = some none)
    (z_len : PySem.W.nsIn K mainGlobals "len" = some none)
    (z_list : PySem.W.nsIn K mainGlobals "list" = some none)
    (z_max : PySem.W.nsIn K mainGlobals "max" = some none)
    (z_min : PySem.W.nsIn K mainGlobals "min" = some none)
    (z_range : PySem.W.nsIn K mainGlobals "range" = some none)
    (z_repr : PySem.W.nsIn K mainGlobals "repr" = some none)
    (z_str : PySem.W.nsIn K mainGlobals "str" = some none)
    (z_sum : PySem.W.nsIn K mainGlobals "sum" = some none)
    (z_tuple : PySem.W.nsIn K mainGlobals "tuple" = some none)
    {u_MOST_VARIABLES : Value}
    (ga_MOST_VARIABLES : PySem.W.nsIn K mainGlobals "MOST_VARIABLES" = some (some u_MOST_VARIABLES))
    (gr_MOST_VARIABLES : repIn K 30 u_MOST_VARIABLES d_MOST_VARIABLES = true)
    {u_MOST_LEAVES : Value}
    (ga_MOST_LEAVES : PySem.W.nsIn K mainGlobals "MOST_LEAVES" = some (some u_MOST_LEAVES))
    (gr_MOST_LEAVES : repIn K 30 u_MOST_LEAVES d_MOST_LEAVES = true)
    {u_MOST_LEVELS : Value}
    (ga_MOST_LEVELS : PySem.W.nsIn K mainGlobals "MOST_LEVELS" = some (some u_MOST_LEVELS))
    (gr_MOST_LEVELS : repIn K 30 u_MOST_LEVELS d_MOST_LEVELS = true)
    {c_Malformed : Addr}
    (xa_Malformed : PySem.W.nsIn K mainGlobals "Malformed" = some (some (.ref c_Malformed)))
    (xq_Malformed : PySem.W.excIn K c_Malformed [.type "ValueError", .type "Exception", .type "BaseException", .type "object"] "ValueError.__new__" = true)
    (xk_Malformed : PySem.W.keepIn K (.ref c_Malformed) = true)
    (xb_Malformed : PySem.W.subIn K (.ref c_Malformed) (.type "BaseException") = some true)
    (xt_Malformed : PySem.W.typeIn K (.ref c_Malformed) = some (.type "type"))
    (xm_Malformed_Malformed : PySem.W.exmOne K (.ref c_Malformed) (.ref c_Malformed) = some true)
    {f__law_draw : Addr} {od__law_draw an__law_draw : Option Addr} {sl__law_draw : Array (Option Value)} {oc__law_draw kV__law_draw dc__law_draw pm__law_draw cd__law_draw ct__law_draw : Value}
    (a__law_draw : PySem.W.nsIn K mainGlobals "_law_draw" = some (some (.ref f__law_draw)))
    (l__law_draw : K.lookup f__law_draw = some ⟨oc__law_draw, od__law_draw, .func (PySem.W.fnOf "_law_draw" "_law_draw" (defArgs s__law_draw) (defBody s__law_draw) (defScope s__law_draw) .none kV__law_draw dc__law_draw pm__law_draw an__law_draw cd__law_draw ct__law_draw), sl__law_draw⟩)
    (cc__law_draw : PySem.W.codeIn K cd__law_draw "_law_draw" = true)
    (k__law_draw : PySem.W.keepIn K (.ref f__law_draw) = true)
    {f__law_take : Addr} {od__law_take an__law_take : Option Addr} {sl__law_take : Array (Option Value)} {oc__law_take kV__law_take dc__law_take pm__law_take cd__law_take ct__law_take : Value}
    (a__law_take : PySem.W.nsIn K mainGlobals "_law_take" = some (some (.ref f__law_take)))
    (l__law_take : K.lookup f__law_take = some ⟨oc__law_take, od__law_take, .func (PySem.W.fnOf "_law_take" "_law_take" (defArgs s__law_take) (defBody s__law_take) (defScope s__law_take) .none kV__law_take dc__law_take pm__law_take an__law_take cd__law_take ct__law_take), sl__law_take⟩)
    (cc__law_take : PySem.W.codeIn K cd__law_take "_law_take" = true)
    (k__law_take : PySem.W.keepIn K (.ref f__law_take) = true)
    {f__law_formula : Addr} {od__law_formula an__law_formula : Option Addr} {sl__law_formula : Array (Option Value)} {oc__law_formula kV__law_formula dc__law_formula pm__law_formula cd__law_formula ct__law_formula : Value}
    (a__law_formula : PySem.W.nsIn K mainGlobals "_law_formula" = some (some (.ref f__law_formula)))
    (l__law_formula : K.lookup f__law_formula = some ⟨oc__law_formula, od__law_formula, .func (PySem.W.fnOf "_law_formula" "_law_formula" (defArgs s__law_formula) (defBody s__law_formula) (defScope s__law_formula) .none kV__law_formula dc__law_formula pm__law_formula an__law_formula cd__law_formula ct__law_formula), sl__law_formula⟩)
    (cc__law_formula : PySem.W.codeIn K cd__law_formula "_law_formula" = true)
    (k__law_formula : PySem.W.keepIn K (.ref f__law_formula) = true)
    {f__law_two : Addr} {od__law_two an__law_two : Option Addr} {sl__law_two : Array (Option Value)} {oc__law_two kV__law_two dc__law_two pm__law_two cd__law_two ct__law_two : Value}
    (a__law_two : PySem.W.nsIn K mainGlobals "_law_two" = some (some (.ref f__law_two)))
    (l__law_two : K.lookup f__law_two = some ⟨oc__law_two, od__law_two, .func (PySem.W.fnOf "_law_two" "_law_two" (defArgs s__law_two) (defBody s__law_two) (defScope s__law_two) .none kV__law_two dc__law_two pm__law_two an__law_two cd__law_two ct__law_two), sl__law_two⟩)
    (cc__law_two : PySem.W.codeIn K cd__law_two "_law_two" = true)
    (k__law_two : PySem.W.keepIn K (.ref f__law_two) = true)
    {f__law_made : Addr} {od__law_made an__law_made : Option Addr} {sl__law_made : Array (Option Value)} {oc__law_made kV__law_made dc__law_made pm__law_made cd__law_made ct__law_made : Value}
    (a__law_made : PySem.W.nsIn K mainGlobals "_law_made" = some (some (.ref f__law_made)))
    (l__law_made : K.lookup f__law_made = some ⟨oc__law_made, od__law_made, .func (PySem.W.fnOf "_law_made" "_law_made" (defArgs s__law_made) (defBody s__law_made) (defScope s__law_made) .none kV__law_made dc__law_made pm__law_made an__law_made cd__law_made ct__law_made), sl__law_made⟩)
    (cc__law_made : PySem.W.codeIn K cd__law_made "_law_made" = true)
    (k__law_made : PySem.W.keepIn K (.ref f__law_made) = true)
    {f__law_bit : Addr} {od__law_bit an__law_bit : Option Addr} {sl__law_bit : Array (Option Value)} {oc__law_bit kV__law_bit dc__law_bit pm__law_bit cd__law_bit ct__law_bit : Value}
    (a__law_bit : PySem.W.nsIn K mainGlobals "_law_bit" = some (some (.ref f__law_bit)))
    (l__law_bit : K.lookup f__law_bit = some ⟨oc__law_bit, od__law_bit, .func (PySem.W.fnOf "_law_bit" "_law_bit" (defArgs s__law_bit) (defBody s__law_bit) (defScope s__law_bit) .none kV__law_bit dc__law_bit pm__law_bit an__law_bit cd__law_bit ct__law_bit), sl__law_bit⟩)
    (cc__law_bit : PySem.W.codeIn K cd__law_bit "_law_bit" = true)
    (k__law_bit : PySem.W.keepIn K (.ref f__law_bit) = true)
    {f__law_value : Addr} {od__law_value an__law_value : Option Addr} {sl__law_value : Array (Option Value)} {oc__law_value kV__law_value dc__law_value pm__law_value cd__law_value ct__law_value : Value}
    (a__law_value : PySem.W.nsIn K mainGlobals "_law_value" = some (some (.ref f__law_value)))
    (l__law_value : K.lookup f__law_value = some ⟨oc__law_value, od__law_value, .func (PySem.W.fnOf "_law_value" "_law_value" (defArgs s__law_value) (defBody s__law_value) (defScope s__law_value) .none kV__law_value dc__law_value pm__law_value an__law_value cd__law_value ct__law_value), sl__law_value⟩)
    (cc__law_value : PySem.W.codeIn K cd__law_value "_law_value" = true)
    (k__law_value : PySem.W.keepIn K (.ref f__law_value) = true)
    {f__law_lamp_of : Addr} {od__law_lamp_of an__law_lamp_of : Option Addr} {sl__law_lamp_of : Array (Option Value)} {oc__law_lamp_of kV__law_lamp_of dc__law_lamp_of pm__law_lamp_of cd__law_lamp_of ct__law_lamp_of : Value}
    (a__law_lamp_of : PySem.W.nsIn K mainGlobals "_law_lamp_of" = some (some (.ref f__law_lamp_of)))
    (l__law_lamp_of : K.lookup f__law_lamp_of = some ⟨oc__law_lamp_of, od__law_lamp_of, .func (PySem.W.fnOf "_law_lamp_of" "_law_lamp_of" (defArgs s__law_lamp_of) (defBody s__law_lamp_of) (defScope s__law_lamp_of) .none kV__law_lamp_of dc__law_lamp_of pm__law_lamp_of an__law_lamp_of cd__law_lamp_of ct__law_lamp_of), sl__law_lamp_of⟩)
    (cc__law_lamp_of : PySem.W.codeIn K cd__law_lamp_of "_law_lamp_of" = true)
    (k__law_lamp_of : PySem.W.keepIn K (.ref f__law_lamp_of) = true)
    {f__law_count : Addr} {od__law_count an__law_count : Option Addr} {sl__law_count : Array (Option Value)} {oc__law_count kV__law_count dc__law_count pm__law_count cd__law_count ct__law_count : Value}
    (a__law_count : PySem.W.nsIn K mainGlobals "_law_count" = some (some (.ref f__law_count)))
    (l__law_count : K.lookup f__law_count = some ⟨oc__law_count, od__law_count, .func (PySem.W.fnOf "_law_count" "_law_count" (defArgs s__law_count) (defBody s__law_count) (defScope s__law_count) .none kV__law_count dc__law_count pm__law_count an__law_count cd__law_count ct__law_count), sl__law_count⟩)
    (cc__law_count : PySem.W.codeIn K cd__law_count "_law_count" = true)
    (k__law_count : PySem.W.keepIn K (.ref f__law_count) = true)
    {f__law_levels : Addr} {od__law_levels an__law_levels : Option Addr} {sl__law_levels : Array (Option Value)} {oc__law_levels kV__law_levels dc__law_levels pm__law_levels cd__law_levels ct__law_levels : Value}
    (a__law_levels : PySem.W.nsIn K mainGlobals "_law_levels" = some (some (.ref f__law_levels)))
    (l__law_levels : K.lookup f__law_levels = some ⟨oc__law_levels, od__law_levels, .func (PySem.W.fnOf "_law_levels" "_law_levels" (defArgs s__law_levels) (defBody s__law_levels) (defScope s__law_levels) .none kV__law_levels dc__law_levels pm__law_levels an__law_levels cd__law_levels ct__law_levels), sl__law_levels⟩)
    (cc__law_levels : PySem.W.codeIn K cd__law_levels "_law_levels" = true)
    (k__law_levels : PySem.W.keepIn K (.ref f__law_levels) = true)
    {f__law_plain : Addr} {od__law_plain an__law_plain : Option Addr} {sl__law_plain : Array (Option Value)} {oc__law_plain kV__law_plain dc__law_plain pm__law_plain cd__law_plain ct__law_plain : Value}
    (a__law_plain : PySem.W.nsIn K mainGlobals "_law_plain" = some (some (.ref f__law_plain)))
    (l__law_plain : K.lookup f__law_plain = some ⟨oc__law_plain, od__law_plain, .func (PySem.W.fnOf "_law_plain" "_law_plain" (defArgs s__law_plain) (defBody s__law_plain) (defScope s__law_plain) .none kV__law_plain dc__law_plain pm__law_plain an__law_plain cd__law_plain ct__law_plain), sl__law_plain⟩)
    (cc__law_plain : PySem.W.codeIn K cd__law_plain "_law_plain" = true)
    (k__law_plain : PySem.W.keepIn K (.ref f__law_plain) = true)
    {f__law_says : Addr} {od__law_says an__law_says : Option Addr} {sl__law_says : Array (Option Value)} {oc__law_says kV__law_says dc__law_says pm__law_says cd__law_says ct__law_says : Value}
    (a__law_says : PySem.W.nsIn K mainGlobals "_law_says" = some (some (.ref f__law_says)))
    (l__law_says : K.lookup f__law_says = some ⟨oc__law_says, od__law_says, .func (PySem.W.fnOf "_law_says" "_law_says" (defArgs s__law_says) (defBody s__law_says) (defScope s__law_says) .none kV__law_says dc__law_says pm__law_says an__law_says cd__law_says ct__law_says), sl__law_says⟩)
    (cc__law_says : PySem.W.codeIn K cd__law_says "_law_says" = true)
    (k__law_says : PySem.W.keepIn K (.ref f__law_says) = true)
    {f_is_whole : Addr} {od_is_whole an_is_whole : Option Addr} {sl_is_whole : Array (Option Value)} {oc_is_whole kV_is_whole dc_is_whole pm_is_whole cd_is_whole ct_is_whole : Value}
    (a_is_whole : PySem.W.nsIn K mainGlobals "is_whole" = some (some (.ref f_is_whole)))
    (l_is_whole : K.lookup f_is_whole = some ⟨oc_is_whole, od_is_whole, .func (PySem.W.fnOf "is_whole" "is_whole" (defArgs s_is_whole) (defBody s_is_whole) (defScope s_is_whole) .none kV_is_whole dc_is_whole pm_is_whole an_is_whole cd_is_whole ct_is_whole), sl_is_whole⟩)
    (cc_is_whole : PySem.W.codeIn K cd_is_whole "is_whole" = true)
    (k_is_whole : PySem.W.keepIn K (.ref f_is_whole) = true)
    {f_check_number : Addr} {od_check_number an_check_number : Option Addr} {sl_check_number : Array (Option Value)} {oc_check_number kV_check_number dc_check_number pm_check_number cd_check_number ct_check_number : Value}
    (a_check_number : PySem.W.nsIn K mainGlobals "check_number" = some (some (.ref f_check_number)))
    (l_check_number : K.lookup f_check_number = some ⟨oc_check_number, od_check_number, .func (PySem.W.fnOf "check_number" "check_number" (defArgs s_check_number) (defBody s_check_number) (defScope s_check_number) .none kV_check_number dc_check_number pm_check_number an_check_number cd_check_number ct_check_number), sl_check_number⟩)
    (cc_check_number : PySem.W.codeIn K cd_check_number "check_number" = true)
    (k_check_number : PySem.W.keepIn K (.ref f_check_number) = true)
    {f_is_leaf : Addr} {od_is_leaf an_is_leaf : Option Addr} {sl_is_leaf : Array (Option Value)} {oc_is_leaf kV_is_leaf dc_is_leaf pm_is_leaf cd_is_leaf ct_is_leaf : Value}
    (a_is_leaf : PySem.W.nsIn K mainGlobals "is_leaf" = some (some (.ref f_is_leaf)))
    (l_is_leaf : K.lookup f_is_leaf = some ⟨oc_is_leaf, od_is_leaf, .func (PySem.W.fnOf "is_leaf" "is_leaf" (defArgs s_is_leaf) (defBody s_is_leaf) (defScope s_is_leaf) .none kV_is_leaf dc_is_leaf pm_is_leaf an_is_leaf cd_is_leaf ct_is_leaf), sl_is_leaf⟩)
    (cc_is_leaf : PySem.W.codeIn K cd_is_leaf "is_leaf" = true)
    (k_is_leaf : PySem.W.keepIn K (.ref f_is_leaf) = true)
    {f_count_leaves : Addr} {od_count_leaves an_count_leaves : Option Addr} {sl_count_leaves : Array (Option Value)} {oc_count_leaves kV_count_leaves dc_count_leaves pm_count_leaves cd_count_leaves ct_count_leaves : Value}
    (a_count_leaves : PySem.W.nsIn K mainGlobals "count_leaves" = some (some (.ref f_count_leaves)))
    (l_count_leaves : K.lookup f_count_leaves = some ⟨oc_count_leaves, od_count_leaves, .func (PySem.W.fnOf "count_leaves" "count_leaves" (defArgs s_count_leaves) (defBody s_count_leaves) (defScope s_count_leaves) .none kV_count_leaves dc_count_leaves pm_count_leaves an_count_leaves cd_count_leaves ct_count_leaves), sl_count_leaves⟩)
    (cc_count_leaves : PySem.W.codeIn K cd_count_leaves "count_leaves" = true)
    (k_count_leaves : PySem.W.keepIn K (.ref f_count_leaves) = true)
    {f_is_formula : Addr} {od_is_formula an_is_formula : Option Addr} {sl_is_formula : Array (Option Value)} {oc_is_formula kV_is_formula dc_is_formula pm_is_formula cd_is_formula ct_is_formula : Value}
    (a_is_formula : PySem.W.nsIn K mainGlobals "is_formula" = some (some (.ref f_is_formula)))
    (l_is_formula : K.lookup f_is_formula = some ⟨oc_is_formula, od_is_formula, .func (PySem.W.fnOf "is_formula" "is_formula" (defArgs s_is_formula) (defBody s_is_formula) (defScope s_is_formula) .none kV_is_formula dc_is_formula pm_is_formula an_is_formula cd_is_formula ct_is_formula), sl_is_formula⟩)
    (cc_is_formula : PySem.W.codeIn K cd_is_formula "is_formula" = true)
    (k_is_formula : PySem.W.keepIn K (.ref f_is_formula) = true)
    {f_check_formula : Addr} {od_check_formula an_check_formula : Option Addr} {sl_check_formula : Array (Option Value)} {oc_check_formula kV_check_formula dc_check_formula pm_check_formula cd_check_formula ct_check_formula : Value}
    (a_check_formula : PySem.W.nsIn K mainGlobals "check_formula" = some (some (.ref f_check_formula)))
    (l_check_formula : K.lookup f_check_formula = some ⟨oc_check_formula, od_check_formula, .func (PySem.W.fnOf "check_formula" "check_formula" (defArgs s_check_formula) (defBody s_check_formula) (defScope s_check_formula) .none kV_check_formula dc_check_formula pm_check_formula an_check_formula cd_check_formula ct_check_formula), sl_check_formula⟩)
    (cc_check_formula : PySem.W.codeIn K cd_check_formula "check_formula" = true)
    (k_check_formula : PySem.W.keepIn K (.ref f_check_formula) = true)
    {f_leaf_table : Addr} {od_leaf_table an_leaf_table : Option Addr} {sl_leaf_table : Array (Option Value)} {oc_leaf_table kV_leaf_table dc_leaf_table pm_leaf_table cd_leaf_table ct_leaf_table : Value}
    (a_leaf_table : PySem.W.nsIn K mainGlobals "leaf_table" = some (some (.ref f_leaf_table)))
    (l_leaf_table : K.lookup f_leaf_table = some ⟨oc_leaf_table, od_leaf_table, .func (PySem.W.fnOf "leaf_table" "leaf_table" (defArgs s_leaf_table) (defBody s_leaf_table) (defScope s_leaf_table) .none kV_leaf_table dc_leaf_table pm_leaf_table an_leaf_table cd_leaf_table ct_leaf_table), sl_leaf_table⟩)
    (cc_leaf_table : PySem.W.codeIn K cd_leaf_table "leaf_table" = true)
    (k_leaf_table : PySem.W.keepIn K (.ref f_leaf_table) = true)
    {f_table_of : Addr} {od_table_of an_table_of : Option Addr} {sl_table_of : Array (Option Value)} {oc_table_of kV_table_of dc_table_of pm_table_of cd_table_of ct_table_of : Value}
    (a_table_of : PySem.W.nsIn K mainGlobals "table_of" = some (some (.ref f_table_of)))
    (l_table_of : K.lookup f_table_of = some ⟨oc_table_of, od_table_of, .func (PySem.W.fnOf "table_of" "table_of" (defArgs s_table_of) (defBody s_table_of) (defScope s_table_of) .none kV_table_of dc_table_of pm_table_of an_table_of cd_table_of ct_table_of), sl_table_of⟩)
    (cc_table_of : PySem.W.codeIn K cd_table_of "table_of" = true)
    (k_table_of : PySem.W.keepIn K (.ref f_table_of) = true)
    {f_lamp_of : Addr} {od_lamp_of an_lamp_of : Option Addr} {sl_lamp_of : Array (Option Value)} {oc_lamp_of kV_lamp_of dc_lamp_of pm_lamp_of cd_lamp_of ct_lamp_of : Value}
    (a_lamp_of : PySem.W.nsIn K mainGlobals "lamp_of" = some (some (.ref f_lamp_of)))
    (l_lamp_of : K.lookup f_lamp_of = some ⟨oc_lamp_of, od_lamp_of, .func (PySem.W.fnOf "lamp_of" "lamp_of" (defArgs s_lamp_of) (defBody s_lamp_of) (defScope s_lamp_of) .none kV_lamp_of dc_lamp_of pm_lamp_of an_lamp_of cd_lamp_of ct_lamp_of), sl_lamp_of⟩)
    (cc_lamp_of : PySem.W.codeIn K cd_lamp_of "lamp_of" = true)
    (k_lamp_of : PySem.W.keepIn K (.ref f_lamp_of) = true)
    {f_leaves_of : Addr} {od_leaves_of an_leaves_of : Option Addr} {sl_leaves_of : Array (Option Value)} {oc_leaves_of kV_leaves_of dc_leaves_of pm_leaves_of cd_leaves_of ct_leaves_of : Value}
    (a_leaves_of : PySem.W.nsIn K mainGlobals "leaves_of" = some (some (.ref f_leaves_of)))
    (l_leaves_of : K.lookup f_leaves_of = some ⟨oc_leaves_of, od_leaves_of, .func (PySem.W.fnOf "leaves_of" "leaves_of" (defArgs s_leaves_of) (defBody s_leaves_of) (defScope s_leaves_of) .none kV_leaves_of dc_leaves_of pm_leaves_of an_leaves_of cd_leaves_of ct_leaves_of), sl_leaves_of⟩)
    (cc_leaves_of : PySem.W.codeIn K cd_leaves_of "leaves_of" = true)
    (k_leaves_of : PySem.W.keepIn K (.ref f_leaves_of) = true)
    {f_count_levels : Addr} {od_count_levels an_count_levels : Option Addr} {sl_count_levels : Array (Option Value)} {oc_count_levels kV_count_levels dc_count_levels pm_count_levels cd_count_levels ct_count_levels : Value}
    (a_count_levels : PySem.W.nsIn K mainGlobals "count_levels" = some (some (.ref f_count_levels)))
    (l_count_levels : K.lookup f_count_levels = some ⟨oc_count_levels, od_count_levels, .func (PySem.W.fnOf "count_levels" "count_levels" (defArgs s_count_levels) (defBody s_count_levels) (defScope s_count_levels) .none kV_count_levels dc_count_levels pm_count_levels an_count_levels cd_count_levels ct_count_levels), sl_count_levels⟩)
    (cc_count_levels : PySem.W.codeIn K cd_count_levels "count_levels" = true)
    (k_count_levels : PySem.W.keepIn K (.ref f_count_levels) = true)
    {f_levels_of : Addr} {od_levels_of an_levels_of : Option Addr} {sl_levels_of : Array (Option Value)} {oc_levels_of kV_levels_of dc_levels_of pm_levels_of cd_levels_of ct_levels_of : Value}
    (a_levels_of : PySem.W.nsIn K mainGlobals "levels_of" = some (some (.ref f_levels_of)))
    (l_levels_of : K.lookup f_levels_of = some ⟨oc_levels_of, od_levels_of, .func (PySem.W.fnOf "levels_of" "levels_of" (defArgs s_levels_of) (defBody s_levels_of) (defScope s_levels_of) .none kV_levels_of dc_levels_of pm_levels_of an_levels_of cd_levels_of ct_levels_of), sl_levels_of⟩)
    (cc_levels_of : PySem.W.codeIn K cd_levels_of "levels_of" = true)
    (k_levels_of : PySem.W.keepIn K (.ref f_levels_of) = true)
    {f_all_plain : Addr} {od_all_plain an_all_plain : Option Addr} {sl_all_plain : Array (Option Value)} {oc_all_plain kV_all_plain dc_all_plain pm_all_plain cd_all_plain ct_all_plain : Value}
    (a_all_plain : PySem.W.nsIn K mainGlobals "all_plain" = some (some (.ref f_all_plain)))
    (l_all_plain : K.lookup f_all_plain = some ⟨oc_all_plain, od_all_plain, .func (PySem.W.fnOf "all_plain" "all_plain" (defArgs s_all_plain) (defBody s_all_plain) (defScope s_all_plain) .none kV_all_plain dc_all_plain pm_all_plain an_all_plain cd_all_plain ct_all_plain), sl_all_plain⟩)
    (cc_all_plain : PySem.W.codeIn K cd_all_plain "all_plain" = true)
    (k_all_plain : PySem.W.keepIn K (.ref f_all_plain) = true)
    {f_is_plain : Addr} {od_is_plain an_is_plain : Option Addr} {sl_is_plain : Array (Option Value)} {oc_is_plain kV_is_plain dc_is_plain pm_is_plain cd_is_plain ct_is_plain : Value}
    (a_is_plain : PySem.W.nsIn K mainGlobals "is_plain" = some (some (.ref f_is_plain)))
    (l_is_plain : K.lookup f_is_plain = some ⟨oc_is_plain, od_is_plain, .func (PySem.W.fnOf "is_plain" "is_plain" (defArgs s_is_plain) (defBody s_is_plain) (defScope s_is_plain) .none kV_is_plain dc_is_plain pm_is_plain an_is_plain cd_is_plain ct_is_plain), sl_is_plain⟩)
    (cc_is_plain : PySem.W.codeIn K cd_is_plain "is_plain" = true)
    (k_is_plain : PySem.W.keepIn K (.ref f_is_plain) = true)
    {f__law_told : Addr} {od__law_told an__law_told : Option Addr} {sl__law_told : Array (Option Value)} {oc__law_told kV__law_told dc__law_told pm__law_told cd__law_told ct__law_told : Value}
    (a__law_told : PySem.W.nsIn K mainGlobals "_law_told" = some (some (.ref f__law_told)))
    (l__law_told : K.lookup f__law_told = some ⟨oc__law_told, od__law_told, .func (PySem.W.fnOf "_law_told" "_law_told" (defArgs s__law_told) (defBody s__law_told) (defScope s__law_told) .none kV__law_told dc__law_told pm__law_told an__law_told cd__law_told ct__law_told), sl__law_told⟩)
    (cc__law_told : PySem.W.codeIn K cd__law_told "_law_told" = true)
    (k__law_told : PySem.W.keepIn K (.ref f__law_told) = true)
    {f__law_bent_formula : Addr} {od__law_bent_formula an__law_bent_formula : Option Addr} {sl__law_bent_formula : Array (Option Value)} {oc__law_bent_formula kV__law_bent_formula dc__law_bent_formula pm__law_bent_formula cd__law_bent_formula ct__law_bent_formula : Value}
    (a__law_bent_formula : PySem.W.nsIn K mainGlobals "_law_bent_formula" = some (some (.ref f__law_bent_formula)))
    (l__law_bent_formula : K.lookup f__law_bent_formula = some ⟨oc__law_bent_formula, od__law_bent_formula, .func (PySem.W.fnOf "_law_bent_formula" "_law_bent_formula" (defArgs s__law_bent_formula) (defBody s__law_bent_formula) (defScope s__law_bent_formula) .none kV__law_bent_formula dc__law_bent_formula pm__law_bent_formula an__law_bent_formula cd__law_bent_formula ct__law_bent_formula), sl__law_bent_formula⟩)
    (cc__law_bent_formula : PySem.W.codeIn K cd__law_bent_formula "_law_bent_formula" = true)
    (k__law_bent_formula : PySem.W.keepIn K (.ref f__law_bent_formula) = true)
    {f_law : Addr} {od_law an_law : Option Addr} {sl_law : Array (Option Value)} {oc_law kV_law dc_law pm_law cd_law ct_law : Value}
    (a_law : PySem.W.nsIn K mainGlobals "law" = some (some (.ref f_law)))
    (l_law : K.lookup f_law = some ⟨oc_law, od_law, .func (PySem.W.fnOf "law" "law" (defArgs s_law) (defBody s_law) (defScope s_law) .none kV_law dc_law pm_law an_law cd_law ct_law), sl_law⟩)
    (cc_law : PySem.W.codeIn K cd_law "law" = true)
    (k_law : PySem.W.keepIn K (.ref f_law) = true) :
    ∃ fd : FuncData, (∀ (s : Shared) (v : Value), BindsTo s fd ⟨[v], []⟩ [("script", v)]) ∧ ∀ base : Heap, K.In base → base.Ns mainGlobals mg → FnG l.prog w K mg base 37 fa fd ["script"] (spLaw K) := by
  have e := hfa.symm.trans (PySem.W.mg_of X G a_law)
  cases e
  let C : Ct := ⟨K, fun i => match i with | 0 => c_Malformed | _ => 0, fun _ => ""⟩
  have T : Tx C mg := {
    b_abs := PySem.W.mg_none_of X G z_abs,
    b_all := PySem.W.mg_none_of X G z_all,
    b_bool := PySem.W.mg_none_of X G z_bool,
    b_int := PySem.W.mg_none_of X G z_int,
    b_isinstance := PySem.W.mg_none_of X G z_isinstance,
    b_len := PySem.W.mg_none_of X G z_len,
    b_list := PySem.W.mg_none_of X G z_list,
    b_max := PySem.W.mg_none_of X G z_max,
    b_min := PySem.W.mg_none_of X G z_min,
    b_range := PySem.W.mg_none_of X G z_range,
    b_repr := PySem.W.mg_none_of X G z_repr,
    b_str := PySem.W.mg_none_of X G z_str,
    b_sum := PySem.W.mg_none_of X G z_sum,
    b_tuple := PySem.W.mg_none_of X G z_tuple,
    g_MOST_VARIABLES := globF_mk X G ga_MOST_VARIABLES gr_MOST_VARIABLES,
    g_MOST_LEAVES := globF_mk X G ga_MOST_LEAVES gr_MOST_LEAVES,
    g_MOST_LEVELS := globF_mk X G ga_MOST_LEVELS gr_MOST_LEVELS,
    x_Malformed := ⟨xq_Malformed, PySem.W.mg_of X G xa_Malformed, xk_Malformed, xb_Malformed, xt_Malformed⟩,
    m_Malformed := (fun k b h => match k, b, h with | 0, b, h => (by cases h; exact xm_Malformed_Malformed) | n + 1, b, h => (by cases h)),
    d__law_draw := ⟨_, _, fun_mk (st := s__law_draw) l__law_draw cc__law_draw k__law_draw, PySem.W.mg_of X G a__law_draw, (fun_mk (st := s__law_draw) l__law_draw cc__law_draw k__law_draw).binds (ps := ["script"]) fun _ _ _ _ _ _ us hl => match us, hl with | [_], _ => rfl⟩,
    d__law_take := ⟨_, _, fun_mk (st := s__law_take) l__law_take cc__law_take k__law_take, PySem.W.mg_of X G a__law_take, (fun_mk (st := s__law_take) l__law_take cc__law_take k__law_take).binds (ps := ["draw", "many"]) fun _ _ _ _ _ _ us hl => match us, hl with | [_, _], _ => rfl⟩,
    d__law_formula := ⟨_, _, fun_mk (st := s__law_formula) l__law_formula cc__law_formula k__law_formula, PySem.W.mg_of X G a__law_formula, (fun_mk (st := s__law_formula) l__law_formula cc__law_formula k__law_formula).binds (ps := ["draw", "n", "levels"]) fun _ _ _ _ _ _ us hl => match us, hl with | [_, _, _], _ => rfl⟩,
    d__law_two := ⟨_, _, fun_mk (st := s__law_two) l__law_two cc__law_two k__law_two, PySem.W.mg_of X G a__law_two, (fun_mk (st := s__law_two) l__law_two cc__law_two k__law_two).binds (ps := ["i"]) fun _ _ _ _ _ _ us hl => match us, hl with | [_], _ => rfl⟩,
    d__law_made := ⟨_, _, fun_mk (st := s__law_made) l__law_made cc__law_made k__law_made, PySem.W.mg_of X G a__law_made, (fun_mk (st := s__law_made) l__law_made cc__law_made k__law_made).binds (ps := ["values"]) fun _ _ _ _ _ _ us hl => match us, hl with | [_], _ => rfl⟩,
    d__law_bit := ⟨_, _, fun_mk (st := s__law_bit) l__law_bit cc__law_bit k__law_bit, PySem.W.mg_of X G a__law_bit, (fun_mk (st := s__law_bit) l__law_bit cc__law_bit k__law_bit).binds (ps := ["x", "i"]) fun _ _ _ _ _ _ us hl => match us, hl with | [_, _], _ => rfl⟩,
    d__law_value := ⟨_, _, fun_mk (st := s__law_value) l__law_value cc__law_value k__law_value, PySem.W.mg_of X G a__law_value, (fun_mk (st := s__law_value) l__law_value cc__law_value k__law_value).binds (ps := ["formula", "x"]) fun _ _ _ _ _ _ us hl => match us, hl with | [_, _], _ => rfl⟩,
    d__law_lamp_of := ⟨_, _, fun_mk (st := s__law_lamp_of) l__law_lamp_of cc__law_lamp_of k__law_lamp_of, PySem.W.mg_of X G a__law_lamp_of, (fun_mk (st := s__law_lamp_of) l__law_lamp_of cc__law_lamp_of k__law_lamp_of).binds (ps := ["formula", "n"]) fun _ _ _ _ _ _ us hl => match us, hl with | [_, _], _ => rfl⟩,
    d__law_count := ⟨_, _, fun_mk (st := s__law_count) l__law_count cc__law_count k__law_count, PySem.W.mg_of X G a__law_count, (fun_mk (st := s__law_count) l__law_count cc__law_count k__law_count).binds (ps := ["value", "n", "levels"]) fun _ _ _ _ _ _ us hl => match us, hl with | [_, _, _], _ => rfl⟩,
    d__law_levels := ⟨_, _, fun_mk (st := s__law_levels) l__law_levels cc__law_levels k__law_levels, PySem.W.mg_of X G a__law_levels, (fun_mk (st := s__law_levels) l__law_levels cc__law_levels k__law_levels).binds (ps := ["formula"]) fun _ _ _ _ _ _ us hl => match us, hl with | [_], _ => rfl⟩,
    d__law_plain := ⟨_, _, fun_mk (st := s__law_plain) l__law_plain cc__law_plain k__law_plain, PySem.W.mg_of X G a__law_plain, (fun_mk (st := s__law_plain) l__law_plain cc__law_plain k__law_plain).binds (ps := ["formula"]) fun _ _ _ _ _ _ us hl => match us, hl with | [_], _ => rfl⟩,
    d__law_says := ⟨_, _, fun_mk (st := s__law_says) l__law_says cc__law_says k__law_says, PySem.W.mg_of X G a__law_says, (fun_mk (st := s__law_says) l__law_says cc__law_says k__law_says).binds (ps := ["value", "due"]) fun _ _ _ _ _ _ us hl => match us, hl with | [_, _], _ => rfl⟩,
    d_is_whole := ⟨_, _, fun_mk (st := s_is_whole) l_is_whole cc_is_whole k_is_whole, PySem.W.mg_of X G a_is_whole, (fun_mk (st := s_is_whole) l_is_whole cc_is_whole k_is_whole).binds (ps := ["value"]) fun _ _ _ _ _ _ us hl => match us, hl with | [_], _ => rfl⟩,
    d_check_number := ⟨_, _, fun_mk (st := s_check_number) l_check_number cc_check_number k_check_number, PySem.W.mg_of X G a_check_number, (fun_mk (st := s_check_number) l_check_number cc_check_number k_check_number).binds (ps := ["n"]) fun _ _ _ _ _ _ us hl => match us, hl with | [_], _ => rfl⟩,
    d_is_leaf := ⟨_, _, fun_mk (st := s_is_leaf) l_is_leaf cc_is_leaf k_is_leaf, PySem.W.mg_of X G a_is_leaf, (fun_mk (st := s_is_leaf) l_is_leaf cc_is_leaf k_is_leaf).binds (ps := ["value", "n"]) fun _ _ _ _ _ _ us hl => match us, hl with | [_, _], _ => rfl⟩,
    d_count_leaves := ⟨_, _, fun_mk (st := s_count_leaves) l_count_leaves cc_count_leaves k_count_leaves, PySem.W.mg_of X G a_count_leaves, (fun_mk (st := s_count_leaves) l_count_leaves cc_count_leaves k_count_leaves).binds (ps := ["value", "n", "levels"]) fun _ _ _ _ _ _ us hl => match us, hl with | [_, _, _], _ => rfl⟩,
    d_is_formula := ⟨_, _, fun_mk (st := s_is_formula) l_is_formula cc_is_formula k_is_formula, PySem.W.mg_of X G a_is_formula, (fun_mk (st := s_is_formula) l_is_formula cc_is_formula k_is_formula).binds (ps := ["n", "value"]) fun _ _ _ _ _ _ us hl => match us, hl with | [_, _], _ => rfl⟩,
    d_check_formula := ⟨_, _, fun_mk (st := s_check_formula) l_check_formula cc_check_formula k_check_formula, PySem.W.mg_of X G a_check_formula, (fun_mk (st := s_check_formula) l_check_formula cc_check_formula k_check_formula).binds (ps := ["n", "value"]) fun _ _ _ _ _ _ us hl => match us, hl with | [_, _], _ => rfl⟩,
    d_leaf_table := ⟨_, _, fun_mk (st := s_leaf_table) l_leaf_table cc_leaf_table k_leaf_table, PySem.W.mg_of X G a_leaf_table, (fun_mk (st := s_leaf_table) l_leaf_table cc_leaf_table k_leaf_table).binds (ps := ["n", "i", "bit"]) fun _ _ _ _ _ _ us hl => match us, hl with | [_, _, _], _ => rfl⟩,
    d_table_of := ⟨_, _, fun_mk (st := s_table_of) l_table_of cc_table_of k_table_of, PySem.W.mg_of X G a_table_of, (fun_mk (st := s_table_of) l_table_of cc_table_of k_table_of).binds (ps := ["n", "formula"]) fun _ _ _ _ _ _ us hl => match us, hl with | [_, _], _ => rfl⟩,
    d_lamp_of := ⟨_, _, fun_mk (st := s_lamp_of) l_lamp_of cc_lamp_of k_lamp_of, PySem.W.mg_of X G a_lamp_of, (fun_mk (st := s_lamp_of) l_lamp_of cc_lamp_of k_lamp_of).binds (ps := ["n", "formula"]) fun _ _ _ _ _ _ us hl => match us, hl with | [_, _], _ => rfl⟩,
    d_leaves_of := ⟨_, _, fun_mk (st := s_leaves_of) l_leaves_of cc_leaves_of k_leaves_of, PySem.W.mg_of X G a_leaves_of, (fun_mk (st := s_leaves_of) l_leaves_of cc_leaves_of k_leaves_of).binds (ps := ["n", "formula"]) fun _ _ _ _ _ _ us hl => match us, hl with | [_, _], _ => rfl⟩,
    d_count_levels := ⟨_, _, fun_mk (st := s_count_levels) l_count_levels cc_count_levels k_count_levels, PySem.W.mg_of X G a_count_levels, (fun_mk (st := s_count_levels) l_count_levels cc_count_levels k_count_levels).binds (ps := ["formula"]) fun _ _ _ _ _ _ us hl => match us, hl with | [_], _ => rfl⟩,
    d_levels_of := ⟨_, _, fun_mk (st := s_levels_of) l_levels_of cc_levels_of k_levels_of, PySem.W.mg_of X G a_levels_of, (fun_mk (st := s_levels_of) l_levels_of cc_levels_of k_levels_of).binds (ps := ["n", "formula"]) fun _ _ _ _ _ _ us hl => match us, hl with | [_, _], _ => rfl⟩,
    d_all_plain := ⟨_, _, fun_mk (st := s_all_plain) l_all_plain cc_all_plain k_all_plain, PySem.W.mg_of X G a_all_plain, (fun_mk (st := s_all_plain) l_all_plain cc_all_plain k_all_plain).binds (ps := ["formula"]) fun _ _ _ _ _ _ us hl => match us, hl with | [_], _ => rfl⟩,
    d_is_plain := ⟨_, _, fun_mk (st := s_is_plain) l_is_plain cc_is_plain k_is_plain, PySem.W.mg_of X G a_is_plain, (fun_mk (st := s_is_plain) l_is_plain cc_is_plain k_is_plain).binds (ps := ["n", "formula"]) fun _ _ _ _ _ _ us hl => match us, hl with | [_, _], _ => rfl⟩,
    d__law_told := ⟨_, _, fun_mk (st := s__law_told) l__law_told cc__law_told k__law_told, PySem.W.mg_of X G a__law_told, (fun_mk (st := s__law_told) l__law_told cc__law_told k__law_told).binds (ps := ["which", "n", "formula"]) fun _ _ _ _ _ _ us hl => match us, hl with | [_, _, _], _ => rfl⟩,
    d__law_bent_formula := ⟨_, _, fun_mk (st := s__law_bent_formula) l__law_bent_formula cc__law_bent_formula k__law_bent_formula, PySem.W.mg_of X G a__law_bent_formula, (fun_mk (st := s__law_bent_formula) l__law_bent_formula cc__law_bent_formula k__law_bent_formula).binds (ps := ["draw", "data"]) fun _ _ _ _ _ _ us hl => match us, hl with | [_, _], _ => rfl⟩,
    d_law := ⟨_, _, fun_mk (st := s_law) l_law cc_law k_law, PySem.W.mg_of X G a_law, (fun_mk (st := s_law) l_law cc_law k_law).binds (ps := ["script"]) fun _ _ _ _ _ _ us hl => match us, hl with | [_], _ => rfl⟩ }
  refine ⟨PySem.W.fnOf "law" "law" (defArgs s_law) (defBody s_law) (defScope s_law) .none kV_law dc_law pm_law an_law cd_law ct_law, fun s v => .of_eq rfl, fun base _ _ => ?_⟩
  obtain ⟨f, fd, FL, mL, F⟩ := ok_law (P := l.prog) (w := w) (base := base) T plain_law
  have e2 := hfa.symm.trans mL
  cases e2
  obtain ⟨oc, od, kV, doc, pm, an, cdv, ct, osl, e3, l3, _⟩ := F.ex
  have e4 := l_law.symm.trans l3
  cases e4

  exact FL
theorem walk {l : PySem.W.OpenLaw} {q : Program} {loose : List Str} {XP : (Str → Option Value) → Heap → Prop} {YP : World → Heap → Prop} {d : DefRec} {K : Params → PySem.W.Frag} (hn : l.most = some 63) (hdf : d.params.defaults = []) (hY : ∀ (w : World) (h : Heap), YP w h → (K w.params).In h)
    (F : ∀ (w : World) (mg : Str → Option Value) (fa : Addr) (h : Heap), (K w.params).In h → h.Ns mainGlobals mg → mg d.name = some (.ref fa) →
      ∃ fd : FuncData, (∀ (s : Shared) (u : Value), BindsTo s fd ⟨[u], []⟩ [("script", u)]) ∧ ∀ base : Heap, (K w.params).In base → base.Ns mainGlobals mg → FnG l.prog w (K w.params) mg base 37 fa fd ["script"] (spLaw (K w.params))) :
    PySem.W.WalkO q loose XP YP l.row.toRowW d [] (fun f vs => PySem.call f vs) :=
  walk_G (n := 63) (k := 37) (x := "script") (sp := spLaw) hn (by decide) hdf ⟨⟨rfl, by decide, by decide⟩, rfl⟩ hY F fun _ _ a ns hl hS => ⟨a, ns, rfl, hS, hl, fun _ => rfl⟩
end G
end L2
open PySem PySem.W PyProof.Rows
set_option maxRecDepth 100000 in
set_option maxHeartbeats 0 in
theorem PySem.Challenge.cw_lampkinds_k50_formulas_and_their_lamps_holds : PySem.Challenge.rw_lampkinds_k50_formulas_and_their_lamps.Holds := by
  w_on; o_law; k_head; (case hw => w_witness2)
  k_fill
  refine L2.G.walk (l := PySem.Challenge.rw_lampkinds_k50_formulas_and_their_lamps) rfl rfl (fun w h Y => PySem.W.kIn_of Y) ?F
  case F =>
    intro w mg fa h KX G hmg
    refine' L2.G.all_mk KX G hmg ?z_abs ?z_all ?z_bool ?z_int ?z_isinstance ?z_len ?z_list ?z_max ?z_min ?z_range ?z_repr ?z_str ?z_sum ?z_tuple ?ga_MOST_VARIABLES ?gr_MOST_VARIABLES ?ga_MOST_LEAVES ?gr_MOST_LEAVES ?ga_MOST_LEVELS ?gr_MOST_LEVELS ?xa_Malformed ?xq_Malformed ?xk_Malformed ?xb_Malformed ?xt_Malformed ?xm_Malformed_Malformed ?a__law_draw ?l__law_draw ?cc__law_draw ?k__law_draw ?a__law_take ?l__law_take ?cc__law_take ?k__law_take ?a__law_formula ?l__law_formula ?cc__law_formula ?k__law_formula ?a__law_two ?l__law_two ?cc__law_two ?k__law_two ?a__law_made ?l__law_made ?cc__law_made ?k__law_made ?a__law_bit ?l__law_bit ?cc__law_bit ?k__law_bit ?a__law_value ?l__law_value ?cc__law_value ?k__law_value ?a__law_lamp_of ?l__law_lamp_of ?cc__law_lamp_of ?k__law_lamp_of ?a__law_count ?l__law_count ?cc__law_count ?k__law_count ?a__law_levels ?l__law_levels ?cc__law_levels ?k__law_levels ?a__law_plain ?l__law_plain ?cc__law_plain ?k__law_plain ?a__law_says ?l__law_says ?cc__law_says ?k__law_says ?a_is_whole ?l_is_whole ?cc_is_whole ?k_is_whole ?a_check_number ?l_check_number ?cc_check_number ?k_check_number ?a_is_leaf ?l_is_leaf ?cc_is_leaf ?k_is_leaf ?a_count_leaves ?l_count_leaves ?cc_count_leaves ?k_count_leaves ?a_is_formula ?l_is_formula ?cc_is_formula ?k_is_formula ?a_check_formula ?l_check_formula ?cc_check_formula ?k_check_formula ?a_leaf_table ?l_leaf_table ?cc_leaf_table ?k_leaf_table ?a_table_of ?l_table_of ?cc_table_of ?k_table_of ?a_lamp_of ?l_lamp_of ?cc_lamp_of ?k_lamp_of ?a_leaves_of ?l_leaves_of ?cc_leaves_of ?k_leaves_of ?a_count_levels ?l_count_levels ?cc_count_levels ?k_count_levels ?a_levels_of ?l_levels_of ?cc_levels_of ?k_levels_of ?a_all_plain ?l_all_plain ?cc_all_plain ?k_all_plain ?a_is_plain ?l_is_plain ?cc_is_plain ?k_is_plain ?a__law_told ?l__law_told ?cc__law_told ?k__law_told ?a__law_bent_formula ?l__law_bent_formula ?cc__law_bent_formula ?k__law_bent_formula ?a_law ?l_law ?cc_law ?k_law
    (case z_abs => k_is)
    (case z_all => k_is)
    (case z_bool => k_is)
    (case z_int => k_is)
    (case z_isinstance => k_is)
    (case z_len => k_is)
    (case z_list => k_is)
    (case z_max => k_is)
    (case z_min => k_is)
    (case z_range => k_is)
    (case z_repr => k_is)
    (case z_str => k_is)
    (case z_sum => k_is)
    (case z_tuple => k_is)
    (case ga_MOST_VARIABLES => k_is)
    (case gr_MOST_VARIABLES => kernel_rfl)
    (case ga_MOST_LEAVES => k_is)
    (case gr_MOST_LEAVES => kernel_rfl)
    (case ga_MOST_LEVELS => k_is)
    (case gr_MOST_LEVELS => kernel_rfl)
    (case xa_Malformed => k_is)
    (case xq_Malformed => kernel_rfl)
    (case xk_Malformed => k_is)
    (case xb_Malformed => k_is)
    (case xt_Malformed => k_is)
    (case xm_Malformed_Malformed => kernel_rfl)
    (case a__law_draw => k_is)
    (case l__law_draw => k_is)
    (case cc__law_draw => k_is)
    (case k__law_draw => k_is)
    (case a__law_take => k_is)
    (case l__law_take => k_is)
    (case cc__law_take => k_is)
    (case k__law_take => k_is)
    (case a__law_formula => k_is)
    (case l__law_formula => k_is)
    (case cc__law_formula => k_is)
    (case k__law_formula => k_is)
    (case a__law_two => k_is)
    (case l__law_two => k_is)
    (case cc__law_two => k_is)
    (case k__law_two => k_is)
    (case a__law_made => k_is)
    (case l__law_made => k_is)
    (case cc__law_made => k_is)
    (case k__law_made => k_is)
    (case a__law_bit => k_is)
    (case l__law_bit => k_is)
    (case cc__law_bit => k_is)
    (case k__law_bit => k_is)
    (case a__law_value => k_is)
    (case l__law_value => k_is)
    (case cc__law_value => k_is)
    (case k__law_value => k_is)
    (case a__law_lamp_of => k_is)
    (case l__law_lamp_of => k_is)
    (case cc__law_lamp_of => k_is)
    (case k__law_lamp_of => k_is)
    (case a__law_count => k_is)
    (case l__law_count => k_is)
    (case cc__law_count => k_is)
    (case k__law_count => k_is)
    (case a__law_levels => k_is)
    (case l__law_levels => k_is)
    (case cc__law_levels => k_is)
    (case k__law_levels => k_is)
    (case a__law_plain => k_is)
    (case l__law_plain => k_is)
    (case cc__law_plain => k_is)
    (case k__law_plain => k_is)
    (case a__law_says => k_is)
    (case l__law_says => k_is)
    (case cc__law_says => k_is)
    (case k__law_says => k_is)
    (case a_is_whole => k_is)
    (case l_is_whole => k_is)
    (case cc_is_whole => k_is)
    (case k_is_whole => k_is)
    (case a_check_number => k_is)
    (case l_check_number => k_is)
    (case cc_check_number => k_is)
    (case k_check_number => k_is)
    (case a_is_leaf => k_is)
    (case l_is_leaf => k_is)
    (case cc_is_leaf => k_is)
    (case k_is_leaf => k_is)
    (case a_count_leaves => k_is)
    (case l_count_leaves => k_is)
    (case cc_count_leaves => k_is)
    (case k_count_leaves => k_is)
    (case a_is_formula => k_is)
    (case l_is_formula => k_is)
    (case cc_is_formula => k_is)
    (case k_is_formula => k_is)
    (case a_check_formula => k_is)
    (case l_check_formula => k_is)
    (case cc_check_formula => k_is)
    (case k_check_formula => k_is)
    (case a_leaf_table => k_is)
    (case l_leaf_table => k_is)
    (case cc_leaf_table => k_is)
    (case k_leaf_table => k_is)
    (case a_table_of => k_is)
    (case l_table_of => k_is)
    (case cc_table_of => k_is)
    (case k_table_of => k_is)
    (case a_lamp_of => k_is)
    (case l_lamp_of => k_is)
    (case cc_lamp_of => k_is)
    (case k_lamp_of => k_is)
    (case a_leaves_of => k_is)
    (case l_leaves_of => k_is)
    (case cc_leaves_of => k_is)
    (case k_leaves_of => k_is)
    (case a_count_levels => k_is)
    (case l_count_levels => k_is)
    (case cc_count_levels => k_is)
    (case k_count_levels => k_is)
    (case a_levels_of => k_is)
    (case l_levels_of => k_is)
    (case cc_levels_of => k_is)
    (case k_levels_of => k_is)
    (case a_all_plain => k_is)
    (case l_all_plain => k_is)
    (case cc_all_plain => k_is)
    (case k_all_plain => k_is)
    (case a_is_plain => k_is)
    (case l_is_plain => k_is)
    (case cc_is_plain => k_is)
    (case k_is_plain => k_is)
    (case a__law_told => k_is)
    (case l__law_told => k_is)
    (case cc__law_told => k_is)
    (case k__law_told => k_is)
    (case a__law_bent_formula => k_is)
    (case l__law_bent_formula => k_is)
    (case cc__law_bent_formula => k_is)
    (case k__law_bent_formula => k_is)
    (case a_law => k_is)
    (case l_law => k_is)
    (case cc_law => k_is)
    (case k_law => k_is)
